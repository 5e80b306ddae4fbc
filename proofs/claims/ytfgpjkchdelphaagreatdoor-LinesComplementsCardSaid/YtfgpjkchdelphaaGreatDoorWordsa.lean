import Derived.Test.YtfgpjkchdelphaaGreatDoorEvC
import Derived.Test.YtfgpjkchdelphaaGreatDoorLaws
import Derived.Test.YtfgpjkchdelphaaGreatDoorIrT
import Derived.Test.YtfgpjkchdelphaaGreatDoorEvD
import Derived.KernelRfl
import Derived.Test.YtfgpjkchdelphaaGreatDoorCodea
set_option linter.unusedSimpArgs false
set_option linter.unusedVariables false
noncomputable section
namespace Go.Ev
open Go Go.Proofs Go.RowKit
def mX:List AV->Option (List (List UInt8))
 | []=>some []
 | .str s::l=>match mX l with
  | some xs=>some (s::xs)
  | none=>none
 | _=>none
def zwn (l:List AV) (sep:List UInt8):Option AV:=match mX l with
 | some xs=>bif Nat.ble (Lib.join xs sep).length 100000 then some (.str (Lib.join xs sep)) else none
 | none=>none
def zwo (cap:Option Nat) (ln:Nat):Bool:=match cap with
 | some k=>Nat.ble ln k
 | none=>true
def zqy (v:AV) (sep:List UInt8) (h:T Blk):Option AV:=match v with
 | .sl id off ln cap esz=>match T.get .no id h with
  | .cells _ m t=>bif Nat.beq esz 1&&Nat.ble (off+ln) m&&Nat.ble ln 100000&&zwo cap ln then zwn (yP t off ln) sep else none
  | _=>none
 | .zf=>some (.str [])
 | _=>none
def zhe (f:Nat) (args:List AV) (h:T Blk):Option (AV×T Blk):=bif Nat.beq f 281 then (match args with
 | [v,.str sep]=>match zqy v sep h with
  | some v=>some (v,h)
  | none=>none
 | _=>none) else none
theorem zhg:∀ {l:List AV} {xs:List (List UInt8)},mX l=some xs->l=xs.map .str
 | [],xs,h=>by simp [mX] at h;subst h;rfl
 | x::l,xs,h=>by
  cases x <;> first | (simp [mX] at h;done) | skip
  simp only [mX] at h;cases hl:mX l with
  | none=>simp [hl] at h
  | some ys=>simp [hl] at h;subst h;simp [zhg hl]
theorem HR.below {P:Program} {B:Nat} {E:Env} {h:T Blk} {nx:Pa} {w w':World} (H:HR P B E h nx w) (hb:Below w.heap.size w w'):HR P B E h nx w'/\Ex E E w w':=by
 refine ⟨{
  blk:=fun id hid=>by
   obtain ⟨b,n,o,q1,q2,q3⟩:=H.blk id hid;exact ⟨b,n,o,q1,by rw [hb.block b (H.lt _ _ _ q1).2];exact q2,q3⟩
  inj:=H.inj
  fresh:=H.fresh
  lt:=fun id b n hid=>⟨(H.lt id b n hid).1,Zdk (H.lt id b n hid).2 hb.size⟩
  base:=Zbj H.base hb.size
  frz:=fun b i v hf=>by
   obtain ⟨⟨c,ty,fr,q1,q2⟩,q3⟩:=H.frz b i v hf;exact ⟨⟨c,ty,fr,by rw [hb.block b (Array.getElem?_eq_some_iff.1 q1).1];exact q1,q2⟩,q3⟩ },?_⟩
 exact ⟨.refl _,hb.os,hb.tape,hb.output,hb.size,fun b hlt _=>hb.block b hlt,fun id b n hid=>.inr ⟨id,n,hid⟩,fun _ _ v h=>.inr (.inl ⟨v,h⟩),fun b L hL=>⟨L,by rw [hb.block b (Array.getElem?_eq_some_iff.1 hL).1];exact hL,.refl _⟩⟩
theorem zcp {B:Nat}:JOk Tryz.prog B zhe:=by
 intro E h nx w f args vs v h2 H hv hj;unfold zhe at hj;cases hf:Nat.beq f 281 with
 | false=>simp [hf] at hj
 | true =>
  obtain rfl:=yG hf;rw [hf,cond_true] at hj;split at hj
  case h_2=>cases hj
  rename_i _ x sep;cases hjj:zqy x sep h with
  | none=>simp [hjj] at hj
  | some v0 =>
  simp only [hjj,Option.some.injEq,Prod.mk.injEq] at hj;obtain ⟨rfl,rfl⟩:=hj;have hj:=hjj
  clear hjj
  refine ⟨(),trivial,trivial,trivial,fun n=>.inl ⟨_,Tryz.func281,by kernel_rfl,by kernel_rfl,callsIn_wide.2 ?_⟩⟩;obtain ⟨l⟩:=vs;simp only [VRL] at hv;obtain ⟨u,_,rfl,hu,s,_,rfl,hs,rfl⟩:=hv;simp only [VR] at hs;subst hs
  have fin:∀ (xs:List (List UInt8)) (w':World) (e:Ending),v0=.str (Lib.join xs sep)->e=.returned (.string ⟨(Lib.join ((xs.map fun s=>(⟨s.toArray⟩:ByteArray)).map (·.data.toList)) (⟨sep.toArray⟩:ByteArray).data.toList).toArray⟩)->Below w.heap.size w w' ->
    ∃ u E',e=.returned u/\VR E' v0 u/\HR Tryz.prog B E' h nx w'/\Ex E E' w w':=by
   intro xs w' e hve he hb;obtain ⟨h1,h2⟩:=H.below hb;refine ⟨_,E,he,?_,h1,h2⟩;rw [hve];simp only [VR,List.map_map]
   congr 2
   have:(xs.map ((fun x=>x.data.toList) ∘ fun s=>(⟨s.toArray⟩:ByteArray)))=xs:=by
    conv=>rhs;rw [<- List.map_id xs]
    exact Zfn fun _ _=>rfl
   rw [this]
  unfold zqy at hj;split at hj
  ·rename_i id off ln cap esz;split at hj
   ·rename_i op m t hb;cases hq:(Nat.beq esz 1&&Nat.ble (off+ln) m&&Nat.ble ln 100000&&zwo cap ln) with
    | false=>simp [hq] at hj
    | true =>
     rw [hq,cond_true] at hj;simp only [Zai] at hq;obtain ⟨⟨⟨q1,q2⟩,q3⟩,q4⟩:=hq;obtain rfl:=yG q1;have q2:=yC q2;have q3:=yC q3;unfold zwn at hj;cases hx:mX (yP t off ln) with
     | none=>simp [hx] at hj
     | some xs =>
      simp only [hx] at hj;cases hl:Nat.ble (Lib.join xs sep).length 100000 with
      | false=>simp [hl] at hj
      | true =>
       rw [hl,cond_true] at hj;have hl:=yC hl;obtain rfl:=(Option.some.inj hj).symm;have hxs:=zhg hx;have hln:xs.length=ln:=by
        have:=congrArg List.length hxs;simpa using this.symm
       obtain ⟨b,n,c,hE,rfl,hcap⟩:=hu.rQ;obtain ⟨b',n',o,h1,h2,h3⟩:=H.blk id (by rw [hb];intro e;cases e);rw [hE] at h1;cases h1;rw [hb] at h3;obtain ⟨cs,ty,fr,rfl,_,_,_,_,hc⟩:=h3
       have hjn:=Tryz.strings_Join b off c (xs.map fun s=>(⟨s.toArray⟩:ByteArray)) ⟨sep.toArray⟩ w (by
        intro j x hx2;rw [List.getElem?_map] at hx2;cases hxj:xs[j]? with
        | none=>simp [hxj] at hx2
        | some s =>
         simp [hxj] at hx2;subst hx2;have hjl:j<ln:=by rw [<- hln];exact (List.getElem?_eq_some_iff.1 hxj).1
         obtain ⟨_,v',g1,g2⟩:=hc (off+j) (by omega);have he:T.get .u (.of (off+j)) t=.str s:=by
          have e1:=yO t off ln j hjl;rw [hxs] at e1;simp [hxj] at e1;exact e1.symm
         rw [he] at g2;simp only [VR] at g2;subst g2
         simp [World.cell?,h2,g1]) (H.lt _ _ _ hE).2 (by simp;omega) (by
          simp only [Zaz,hln];cases cap with
          | none=>exact hcap.1
          | some k =>
           have h4:ln<=k:=yC q4;have h5:c=k:=hcap;omega) (by
          have:((xs.map fun s=>(⟨s.toArray⟩:ByteArray)).map (·.data.toList))=xs:=by
           rw [List.map_map]
           conv=>rhs;rw [<- List.map_id xs]
           exact Zfn fun _ _=>rfl
          rw [this];show (Lib.join xs sep).length<=_;omega)
       rw [Zaz,hln] at hjn;exact hjn.mono fun e w' ⟨he,hb⟩=>fin xs w' e rfl he hb
   ·cases hj
  ·obtain rfl:=(Option.some.inj hj).symm;simp only [VR] at hu;subst hu;exact (Tryz.strings_Join_none none 0 _ w).mono fun e w' ⟨he,hb⟩=>fin [] w' e rfl he (hb ▸ Below.refl _ _)
  ·cases hj
end Go.Ev
namespace Go.Ev
open Go Go.Proofs
def zi6 (J:Nat->List AV->T Blk->Option (AV×T Blk)) (f:Nat) (args:List AV) (res:AV):Bool:=match (vU (fun _=>false) J tbl 1000 60).fn f (.of f) args .e .z endK with
 | .ok v=>oL v res
 | .no _=>false
theorem zhf {J:Nat->List AV->T Blk->Option (AV×T Blk)} {f:Nat} {args:List AV} {res:AV} {B:Nat} (hJ:∀ B,JOk Tryz.prog B J) (ha:nns args=true) (h:zi6 J f args res=true):Pure Tryz.prog B f args (· = res):=by
 unfold zi6 at h;cases hq:(vU (fun _=>false) J tbl 1000 60).fn f (.of f) args .e .z endK with
 | no n=>rw [hq] at h;cases h
 | ok v =>
  rw [hq] at h;have e:=vA h;subst e;exact jG zS mixed hJ ha hq
end Go.Ev
namespace Go.Ev
def bv (b:Nat):List Nat->Nat
 | []=>0
 | x::l=>x+b*bv b l
theorem kM (b:Nat):∀ l m:List Nat,bv b (l++m)=bv b l+b ^ l.length*bv b m
 | [],m=>by simp [bv]
 | x::l,m=>by
  rw [Zch,bv,kM b l m,bv,Zbt,Zbh,Zba,Zdd,Zaw (b ^ l.length) b,Zbb]
theorem gG (b:Nat) (l:List Nat) (x:Nat):bv b (l++[x])=bv b l+b ^ l.length*x:=by
 rw [kM];simp [bv]
def Dg (b:Nat) (l:List Nat):Prop:=∀ x∈l,x<b
theorem vI {b:Nat} (hb:0<b):∀ {l:List Nat},Dg b l->bv b l<b ^ l.length
 | [],_=>by simp [bv]
 | x::l,h=>by
  have h1:=vI hb (l:=l) fun y hy=>h y (by simp [hy]);have h2:=h x (by simp);rw [bv,Zbt,Zbh,Zaw (b ^ l.length) b];have h3:b*(bv b l+1)<=b*b ^ l.length:=Zbc b h1;rw [Zba,Zca] at h3;omega
def Nm (l:List Nat):Prop:=l.getLast? ≠ some 0
def dg (b:Nat) (z:Nat):List Nat:=if h:z=0\/b<2 then [] else z%b::dg b (z / b)
termination_by z
decreasing_by
 have h1:z≠0:=fun q=>h (.inl q);have h2:¬ b<2:=fun q=>h (.inr q);exact Nat.div_lt_self (Zet h1) (by omega)
theorem kE (b:Nat):dg b 0=[]:=by rw [dg];simp
theorem wO {b z:Nat} (hb:2<=b) (hz:z≠0):dg b z=z%b::dg b (z / b):=by
 rw [dg,dif_neg (by omega)]
theorem kF {b:Nat} (hb:2<=b) (z:Nat):bv b (dg b z)=z/\Dg b (dg b z)/\Nm (dg b z):=by
 induction z using Nat.strongRecOn with
 | ind z ih =>
  by_cases hz:z=0
  ·subst hz;rw [kE];exact ⟨rfl,fun x hx=>by simp at hx,by simp [Nm]⟩
  ·obtain ⟨h1,h2,h3⟩:=ih (z / b) (Nat.div_lt_self (Zet hz) (by omega));rw [wO hb hz];refine ⟨?_,?_,?_⟩
   ·rw [bv,h1];exact Zct z b
   ·intro x hx;rcases List.mem_cons.1 hx with rfl | hx
    ·exact Zbl _ (by omega)
    ·exact h2 x hx
   ·unfold Nm at *
    by_cases hd:z / b=0
    ·rw [hd,kE];have:z<b:=by
      rcases Nat.div_eq_zero_iff.1 hd with q | q
      ·omega
      ·exact q
     simp [Zao this];exact hz
    ·rw [wO hb hd] at h3 ⊢;rw [List.getLast?_cons_cons];exact h3
theorem zd3 {b:Nat} (hb:2<=b):∀ {l:List Nat},Dg b l->Nm l->l=dg b (bv b l)
 | [],_,_=>by rw [bv,kE]
 | x::l,h,hn=>by
  have hx:=h x (by simp);have hl:Dg b l:=fun y hy=>h y (by simp [hy]);have hnl:Nm l:=by
   unfold Nm at *
   cases l with
   | nil=>simp
   | cons y l=>rw [List.getLast?_cons_cons] at hn;exact hn
  have ih:=zd3 hb hl hnl;have hz:bv b (x::l)≠0:=by
   rw [bv];intro q;have hx0:x=0:=by omega
   have hv:bv b l=0:=by
    have:b*bv b l=0:=by omega
    rcases Nat.mul_eq_zero.1 this with q | q
    ·omega
    ·exact q
   rw [hv,kE] at ih;subst ih;subst hx0;simp [Nm] at hn
  rw [wO hb hz,bv];have e1:(x+b*bv b l)%b=x:=by rw [Nat.add_mul_mod_self_left,Zao hx]
  have e2:(x+b*bv b l) / b=bv b l:=by rw [Nat.add_mul_div_left _ _ (by omega),Zeh hx,Zbe]
  rw [e1,e2,<- ih]
theorem zcr {b x y c:Nat} (hx:x<b) (hy:y<b) (hc:c<=1):(x+y+c) / b<=1:=by
 have:(x+y+c) / b<2:=Nat.div_lt_of_lt_mul (by omega);omega
theorem qG {b:Nat} {l:List Nat} {i x:Nat} (h:l[i]? = some x):bv b (l.take (i+1))=bv b (l.take i)+b ^ i*x:=by
 have hi:i<l.length:=(List.getElem?_eq_some_iff.1 h).1;rw [Zan,h];show bv b (l.take i++[x])=_;rw [gG,Zas,Zbz (by omega)]
theorem zqz {b P U V u1 u0 ul v1 v2 vl q r:Nat} (hU:U=(u1*b+u0)*P+ul) (hul:ul<P) (hV:V=(v1*b+v2)*P+vl)
  (hr:q*v1+r=u1) (h:r*b+u0<q*v2):U<q*V:=by
 have e1:q*(v1*b+v2)=q*v1*b+q*v2:=by rw [Zba,Zbb]
 have e2:u1*b=q*v1*b+r*b:=by rw [<- hr,Zam]
 have h1:u1*b+u0+1<=q*(v1*b+v2):=by omega
 have h2:(u1*b+u0+1)*P<=q*(v1*b+v2)*P:=Zak P h1;have e3:q*V=q*(v1*b+v2)*P+q*vl:=by rw [hV,Zba,Zbb]
 rw [Zam,Zbx] at h2;omega
theorem ztw {b P U V u1 u0 ul v1 v2 vl q r:Nat} (hU:U=(u1*b+u0)*P+ul) (hV:V=(v1*b+v2)*P+vl) (hvl:vl<P)
  (hr:q*v1+r=u1) (hq:q<=b) (h:q*v2<=r*b+u0) (hv:1<=v1):q*V<=U+V:=by
 have e1:q*(v1*b+v2)=q*v1*b+q*v2:=by rw [Zba,Zbb]
 have e2:u1*b=q*v1*b+r*b:=by rw [<- hr,Zam]
 have h1:q*(v1*b+v2)<=u1*b+u0:=by omega
 have h2:q*(v1*b+v2)*P<=(u1*b+u0)*P:=Zak P h1;have e3:q*V=q*(v1*b+v2)*P+q*vl:=by rw [hV,Zba,Zbb]
 have h3:q*vl<=b*P:=Zbd hq (by omega)
 have h4:b*P<=(v1*b+v2)*P:=Zak P (by
  have:1*b<=v1*b:=Zak b hv;omega)
 omega
theorem zkn {b P U V u1 u0 ul v1 v2 vl q r:Nat} (hU:U=(u1*b+u0)*P+ul) (hul:ul<P) (hu:u0<b) (hV:V=(v1*b+v2)*P+vl)
  (hr:q*v1+r=u1) (h:r<v1):U<(q+1)*V:=by
 have h1:u1+1<=(q+1)*v1:=by rw [Zam];omega
 have h2:(u1+1)*b<=(q+1)*v1*b:=Zak b h1;have h3:u1*b+u0+1<=(q+1)*(v1*b+v2):=by
  rw [Zba,<- Zbb];rw [Zam,Zbx] at h2;omega
 have h4:(u1*b+u0+1)*P<=(q+1)*(v1*b+v2)*P:=Zak P h3;have e3:(q+1)*V=(q+1)*(v1*b+v2)*P+(q+1)*vl:=by rw [hV,Zba,Zbb]
 rw [Zam,Zbx] at h4;omega
theorem zcs {U V q r:Nat} (h:U=q*V+r) (hr:r<V):U / V=q/\U%V=r:=by
 have hv:0<V:=by omega
 subst h;refine ⟨?_,?_⟩
 ·rw [Zcs,Nat.add_mul_div_right _ _ hv,Zeh hr,Zbe]
 ·rw [Zcs,Nat.add_mul_mod_self_right,Zao hr]
end Go.Ev
namespace Go.Ev
open Go Go.Proofs
variable {B:Nat}
set_option maxRecDepth 100000
theorem jA {B:Nat}:dM Tryz.prog B Prop:=zcb mixed
abbrev U (m:Nat):AV:=.int .u64 (m:Int)
def uw (l:List Nat):AV:=.lst 1 l.length (l.map U)
theorem zhh {z:Int} (h:0<=z/\z<18446744073709551616):IntKind.wrap .u64 z=z:=by
 have e:IntKind.wrap .u64 z=z%18446744073709551616:=by
  unfold IntKind.wrap;first | rfl | simp [IntKind.bits,IntKind.signed] | skip
 rw [e];omega
theorem zi7 {m:Nat}:IntKind.wrap .u64 (m:Int)=((m%18446744073709551616:Nat):Int):=by
 have e:IntKind.wrap .u64 (m:Int)=(m:Int)%18446744073709551616:=by
  unfold IntKind.wrap;first | rfl | simp [IntKind.bits,IntKind.signed] | skip
 rw [e];omega
theorem zq0 {z:Int}:IntKind.wrap .u64 z=z%18446744073709551616:=by
 unfold IntKind.wrap;first | rfl | simp [IntKind.bits,IntKind.signed]
theorem uAdd {a b:Nat} {K:AV->OP}:zi .add .int (U a) (U b) K=K (U ((a+b)%18446744073709551616)):=by
 rw [zvu,show (a:Int)+(b:Int)=((a+b:Nat):Int) by omega,zi7]
theorem aX {a b:Nat} {K:AV->OP}:zi .mul .int (U a) (U b) K=K (U ((a*b)%18446744073709551616)):=by
 rw [qbm,show (a:Int)*(b:Int)=((a*b:Nat):Int) by simp,zi7]
theorem uSub {a b:Nat} {K:AV->OP} (h:b<=a) (ha:a<18446744073709551616):zi .sub .int (U a) (U b) K=K (U (a-b)):=by
 rw [zvv,zhh (by omega),show (a:Int)-(b:Int)=((a-b:Nat):Int) by omega]
theorem zwp {a b c:Nat} {K:AV->OP} (h:(c+b)%18446744073709551616=a%18446744073709551616) (hc:c<18446744073709551616):zi .sub .int (U a) (U b) K=K (U c):=by
 rw [zvv,zq0,show ((a:Int)-(b:Int))%18446744073709551616=(c:Int) by omega]
theorem uShr {m n:Nat} {k:IntKind} {K:AV->OP} (hn:n<=64):zi .shr .int (U m) (.int k (n:Int)) K=K (U (m / 2 ^ n)):=by
 have e:zi .shr .int (U m) (.int k (n:Int)) K=(bif ilt (n:Int) 0 then Out.no 5 else qw ((m:Int).fdiv (2 ^ (min (n:Int).toNat IntKind.u64.bits))) fun z=>K (.int .u64 z)):=by cases k <;> rfl
 have h0:ilt (n:Int) 0=false:=rfl;rw [e,h0,cond_false,gE];have hb:IntKind.u64.bits=64:=rfl;rw [hb,Zez,Zbz hn,Int.fdiv_eq_ediv_of_nonneg _ (Int.pow_nonneg (by omega))]
 congr 2
theorem dX {m:Nat} {k:IntKind} {K:AV->OP}:zi .shr .int (U m) (.int k 32) K=K (U (m / 4294967296)):=uShr (n:=32) (by omega)
theorem uAnd {m:Nat} {K:AV->OP} (hm:m<18446744073709551616):zi .and .int (U m) (.int .u64 4294967295) K=K (U (m%4294967296)):=by
 have e:zi .and .int (U m) (U 4294967295) K=qw (IntKind.u64.wrap ((BitVec.ofInt 64 (m:Int) &&& BitVec.ofInt 64 ((4294967295:Nat):Int)).toNat:Int)) fun z=>K (.int .u64 z):=rfl;have h1:(BitVec.ofInt 64 (m:Int) &&& BitVec.ofInt 64 ((4294967295:Nat):Int)).toNat=m%4294967296:=by
  rw [BitVec.ofInt_natCast,BitVec.ofInt_natCast,BitVec.toNat_and,BitVec.toNat_ofNat,BitVec.toNat_ofNat,Zao hm];exact Nat.and_two_pow_sub_one_eq_mod m 32
 have e2:zi .and .int (U m) (.int .u64 4294967295) K=zi .and .int (U m) (U 4294967295) K:=rfl;rw [e2,e,gE,h1,zhh (by omega)]
theorem uLss {a b:Nat} {K:AV->OP}:zi .lss .int (U a) (U b) K=K (.bool (decide (a<b))):=by rw [ug];simp only [Int.ofNat_lt]
theorem uLeq {a b:Nat} {K:AV->OP}:zi .leq .int (U a) (U b) K=K (.bool (decide (a<=b))):=by rw [ni];simp only [Int.ofNat_le]
theorem uGeq {a b:Nat} {K:AV->OP}:zi .geq .int (U a) (U b) K=K (.bool (decide (b<=a))):=by rw [pz];simp only [Int.ofNat_le]
theorem uGtr {a b:Nat} {K:AV->OP}:zi .gtr .int (U a) (U b) K=K (.bool (decide (b<a))):=by rw [bf];simp only [Int.ofNat_lt]
theorem uNeq {a b:Nat} {K:AV->OP}:zi .neq .int (U a) (U b) K=K (.bool (!decide (a=b))):=by rw [vk];simp only [Int.natCast_inj]
theorem uEql {a b:Nat} {K:AV->OP}:zi .eql .int (U a) (U b) K=K (.bool (decide (a=b))):=by rw [ve];simp only [Int.natCast_inj]
theorem zd4 {a:Nat} {K:AV->OP}:zi .eql .int (U a) (.int .u64 0) K=K (.bool (decide (a=0))):=uEql (b:=0)
theorem zq1 {k:IntKind} {z:Int} {m:Nat} {K:AV->OP} (h:z=(m:Int)) (hm:m<18446744073709551616):wD .u64 (.int k z) K=K (U m):=by
 show qw (u5 .u64 z) (fun z=>K (.int .u64 z))=_;rw [gE,qN,zhh (by omega),h]
theorem zyq {k:IntKind} {z:Int} {K:AV->OP} (h : -9223372036854775808<=z/\z<0):wD .u64 (.int k z) K=K (U (z+18446744073709551616).toNat):=by
 show qw (u5 .u64 z) (fun z=>K (.int .u64 z))=_;rw [gE,qN,zq0,show z%18446744073709551616=((z+18446744073709551616).toNat:Int) by omega]
theorem zct {k:IntKind} {z:Int} {K:AV->OP} (h : -9223372036854775808<=z/\z<=9223372036854775807):wD .i64 (.int k z) K=K (I z):=by
 show qw (u5 .i64 z) (fun z=>K (.int .i64 z))=_;rw [gE,qN,qI h]
theorem uNeg {z:Int} {K:AV->OP} (h : -9223372036854775807<=z/\z<=9223372036854775808):sNeg (I z) K=K (I (-z)):=by
 show qw (u5 .i64 (0-z)) (fun z=>K (.int .i64 z))=_;rw [gE,qN,qI (by omega),Int.zero_sub]
theorem qbw {K:AV->OP}:sNeg (I (-9223372036854775808)) K=K (I (-9223372036854775808)):=nr rfl
theorem zq2 (l:List Nat):∀ v∈l.map U,fP v=true:=fun v hv=>by obtain ⟨x,_,rfl⟩:=List.mem_map.1 hv;rfl
theorem gS (l:List Nat):fP (uw l)=true:=zce (zq2 l)
theorem uGet {l:List Nat} {i x:Nat} (h:l[i]? = some x):(l.map U)[i]? = some (U x):=by rw [List.getElem?_map,h];rfl
theorem fU {l:List Nat} {K:AV->OP}:sLen (uw l) K=K (I l.length):=zX ..
theorem uIx {l:List Nat} {i:Nat} {j:Int} {op:AV->OP} (hj:j=(i:Int)) (hi:i<l.length):zL 1 (uw l) (I j) op=op (.fp ((l.map U).drop (i*1))):=bH hj hi
theorem uLd {l:List Nat} {i x:Nat} {h:T Blk} {op:AV->OP} (hx:l[i]? = some x):zH (.fp ((l.map U).drop (i*1))) h op=op (U x):=ldL (uGet hx)
theorem uj.zi8 {N:Pa->Prop} {O:AV->Prop} {h:T Blk} {id:Pa} {l:List AV} {cap:Option Nat} {n:Nat} (H:uj h id l) (hid:N id) (hcap:capLe n cap) (hn:n<=l.length) (hf:∀ v∈l,fP v=true):Frz True N O h (.sl id 0 n cap 1) (.lst 1 n (l.take n)):=by
 obtain ⟨op,t,h1,h2⟩:=H;refine .sl _ _ _ _ _ op _ t _ hid hcap h1 (by omega) (by rw [Zas];omega) (List.all_eq_true.2 fun v hv=>fP.uz (hf v (Zcx hv))) fun i v hi => ?_;rw [List.getElem?_take] at hi;split at hi
 ·have:=yO t 0 l.length i (List.getElem?_eq_some_iff.1 hi).1;rw [h2,hi] at this;rw [<- Option.some.inj this];exact zY (hf v (Zae hi))
 ·cases hi
theorem Hp.zi8 {h0 h:T Blk} {nx id:Pa} {L:List Ob} {k n:Nat} {l:List AV} {cap:Option Nat} (H:Hp h0 h nx L) (hk:L[k]? = some (.arr id l)) (hcap:capLe n cap) (hn:n<=l.length) (hf:∀ v∈l,fP v=true):sU h0 h (.sl id 0 n cap 1) (.lst 1 n (l.take n)) :=
 uj.zi8 (H.own _ (Zae hk)) (H.off id (List.mem_flatMap.2 ⟨_,Zae hk,by simp [Ob.names]⟩)) hcap hn hf
theorem Hp.zwq {h0 h:T Blk} {nx id:Pa} {L:List Ob} {l:List AV} (H:Hp h0 h nx (.arr id l::L)):Hp h0 (T.set .no .no id h) nx L:=by
 have hid:T.get .no id h0=.no:=H.off id (by simp [Ob.names]);have H3:=H.drop;have nd:=H.nd;simp only [Zcb,Ob.names] at nd;have hni:id∉L.flatMap Ob.names:=fun hi=>(List.nodup_append.1 nd).2.2 id (by simp) id hi rfl;have other:∀ j,j≠id->T.get .no j (T.set .no .no id h)=T.get .no j h:=fun j hj=>T.yj _ _ _ _ _ hj;refine ⟨fun j hj => ?_,fun y hy => ?_,H3.off,H3.nd,fun j hj => ?_⟩
 ·rw [other j (by rintro rfl;exact hj hid)];exact H.keep j hj
 ·exact (H3.own y hy).congr fun m hm=>other m (by rintro rfl;exact hni (List.mem_flatMap.2 ⟨y,hy,hm⟩))
 ·by_cases e:j=id
  ·subst e;exact T.get_set_same _ _ _ _
  ·rw [other j e];exact H.fr j hj
theorem Hp.letU {h0 h:T Blk} {nx:Pa} {L:List Ob} {id:Pa} {l:List Nat} {n:Nat} (H:Hp h0 h nx (.arr id (l.map U)::L)) (hn:l.length=n):∃ h',qC h' h/\Hp h0 h' nx L/\sU h' h (.sl id 0 n (some n) 1) (uw l):=by
 subst hn;exact ⟨_,zci,H.zwq,uj.frz (H.own _ (Zal ..)) (T.get_set_same _ _ _ _) (Zah _) (by simp) (zq2 l)⟩
theorem vE {x y c:Nat} (hc:c<=1):Pure Tryz.prog B 300 [U x,U y,U c] (· = .tup [U ((x+y+c)%18446744073709551616),U ((x+y+c) / 18446744073709551616)]) :=
 zg5 Tryz.func300 (by kernel_rfl) (by kernel_rfl) (by kernel_rfl) (by kernel_rfl) hc
theorem zff {x y b:Nat} (hc:b<=1):Pure Tryz.prog B 301 [U x,U y,U b] (· = .tup [U ((x+18446744073709551616-y-b)%18446744073709551616),U (if x<y+b then 1 else 0)]) :=
 zg6 Tryz.func301 (by kernel_rfl) (by kernel_rfl) (by kernel_rfl) (by kernel_rfl) hc
theorem zfg {a b:Nat} (ha:a<18446744073709551616) (hb:b<18446744073709551616):Pure Tryz.prog B 263 [U a,U b] (· = .tup [U (a*b / 18446744073709551616),U (a*b%18446744073709551616)]):=by
 intro p h nx K hK;refine zP zS jA 10 fun hf => ?_;rw [jk.go,jk.t23,zA,jk.jm,zA,jk.jl,uAnd ha,zA,jk.qh,dX,zA,jk.rC,uAnd hb,zA,jk.rD,dX];have ha0:a%4294967296<4294967296:=by omega
 have ha1:a / 4294967296<4294967296:=by omega
 have hb0:b%4294967296<4294967296:=by omega
 have hb1:b / 4294967296<4294967296:=by omega
 have ea:a=a / 4294967296*4294967296+a%4294967296:=by omega
 have eb:b=b / 4294967296*4294967296+b%4294967296:=by omega
 generalize a / 4294967296=a1 at *
 generalize a%4294967296=a0 at *
 generalize b / 4294967296=b1 at *
 generalize b%4294967296=b0 at *
 have m00:a0*b0<=4294967295*4294967295:=Zbd (by omega) (by omega);have m10:a1*b0<=4294967295*4294967295:=Zbd (by omega) (by omega);have m01:a0*b1<=4294967295*4294967295:=Zbd (by omega) (by omega);have m11:a1*b1<=4294967295*4294967295:=Zbd (by omega) (by omega);have hp:a*b=a1*b1*18446744073709551616+(a1*b0+a0*b1)*4294967296+a0*b0:=by
  rw [ea,eb];simp only [Zam,Zba];have e1:a1*4294967296*(b1*4294967296)=a1*b1*18446744073709551616:=by
   rw [Nat.mul_mul_mul_comm]
  have e2:a1*4294967296*b0=a1*b0*4294967296:=by rw [Zfr]
  have e3:a0*(b1*4294967296)=a0*b1*4294967296:=by rw [Zbb]
  rw [e1,e2,e3];omega
 rw [zA,jk.bJ,aX,Zao (show a0*b0<18446744073709551616 by omega),zA,jk.mg,aX,Zao (show a1*b0<18446744073709551616 by omega),dX,uAdd,Zao (show a1*b0+a0*b0 / 4294967296<18446744073709551616 by omega),zA,jk.rq,uAnd (by omega),zA,jk.sH,dX,zA,jk.ay,aX,Zao (show a0*b1<18446744073709551616 by omega),uAdd,zA,jk.rG,aX,Zao (show a1*b1<18446744073709551616 by omega),uAdd,dX,uAdd,zA,jk.fZ,aX];simp only [zJ,zT];rw [jk.ret];refine hK _ ?_ hf;rw [hp]
 generalize a0*b0=p00 at *
 generalize a1*b0=p10 at *
 generalize a0*b1=p01 at *
 generalize a1*b1=p11 at *
 congr 3
 congr 1
 omega
theorem zfh {z:Int} (h : -9223372036854775808<=z/\z<=9223372036854775807):Pure Tryz.prog B 264 [I z] (· = U z.natAbs):=by
 refine yB fun hh nx K H0 hK=>zP zS jA 100 fun hf => ?_;have ret:∀ {m:Nat},m=z.natAbs->K (U m) hh nx=.ok True:=fun e=>hK _ _ _ _ _ H0 (zY rfl) (by rw [e]);rw [xq.go,xq.t9,zA,xq.jm,zA,zA,xq.jl,ug,zB,xq.v2];by_cases c:z<0
 ·rw [Zaa c,zD,zA,xq.qh];by_cases d:z = -9223372036854775808
  ·subst d;rw [qbw,zyq (by omega)];simp only [zJ,zT];rw [xq.ret];exact ret (by decide)
  ·rw [uNeg (by omega),zq1 (m:=z.natAbs) (by omega) (by omega)];simp only [zJ,zT];rw [xq.ret];exact ret rfl
 ·rw [Zab c,zC,zF,zA,xq.mg,zq1 (m:=z.natAbs) (by omega) (by omega)];simp only [zJ,zT];rw [xq.ret];exact ret rfl
theorem zq3 {l:List Nat} {i:Nat} {op:AV->OP} (hl:1<=l.length) (hi:i<=l.length):kZ 1 (uw l) none (some (I (i:Int))) none op=op (uw (l.take i)):=by
 show (bif Nat.beq 1 1&&Nat.ble 1 l.length then (match bnd (some (I (i:Int))) l.length l.length with | none=>Out.no 17 | some h=>match bnd none h 0 with | none=>.no 17 | some q=>op (.lst 1 (h-q) (((l.map U).drop (q*1)).take ((h-q)*1)))) else .no 17)=_;rw [Zaf hl];have:bnd (some (I (i:Int))) l.length l.length=some i:=by
  show (bif Nat.ble i l.length then some i else none)=_;rw [Zaf hi];rfl
 rw [this];show op (.lst 1 (i-0) (((l.map U).drop (0*1)).take ((i-0)*1)))=_;unfold uw;rw [Zas,Zbz hi,Zfd];simp
theorem ztx {l:List Nat} {k x:Nat} (h:l[k]? = some x) (hx:x≠0):Nm (l.take (k+1)):=by
 unfold Nm;rw [Zan,h];show (l.take k++[x]).getLast? ≠ _;rw [List.getLast?_concat];intro q;cases q;exact hx rfl
theorem Dg.take {b n:Nat} {l:List Nat} (h:Dg b l):Dg b (l.take n):=fun x hx=>h x (Zcx hx)
theorem wC {l:List Nat} (hd:Dg 18446744073709551616 l) (hl1:1<=l.length) (hl:l.length<=1000000):Pure Tryz.prog B 289 [uw l] (· = uw (dg 18446744073709551616 (bv 18446744073709551616 l))):=by
 refine yB fun h nx K H0 hK=>zP zS jA 1000010 fun hf => ?_;rw [jv.go,jv.t14,zA,jv.jm,zA,jv.jl,fU,zA,zM];refine jv.t8_L (fun m x2 h' nx'=>x2=I (m:Int)/\m<=l.length/\bv 18446744073709551616 (l.take m)=bv 18446744073709551616 l/\Hp h h' nx' []) (m:=l.length) (by omega) ⟨rfl,by omega,by rw [Zfg],H0⟩ ?_;rintro m z2 z3 h3 nx3 R ⟨rfl,hm,hb,H3⟩ hR;have fin:Nm (l.take m)->K (uw (l.take m)) h3 nx3=.ok True:=fun hn=>hK _ _ _ _ _ H3 (zY (gS _)) (by rw [<- hb,<- zd3 (by decide) hd.take hn]);rw [jv.t7,zA,zA,jv.qh,jv.r2_0,jv.zw4,bf];cases m with
 | zero =>
  rw [Zab (by omega)];simp only [yM];rw [jv.r2_1,jv.zmt];simp only [yM,zQ];rw [zB,jv.v3,zC,zZ,yH,zA,jv.rG,zq3 hl1 hm];simp only [zJ,zT];rw [jv.ret];exact fin (by simp [Nm])
 | succ k =>
  have e:l[k]? = some (l.getD k 0):=by rw [Zac,List.getElem?_eq_getElem (show k<l.length by omega)];rfl
  rw [Zaa (by omega)];simp only [yN];rw [xw (by omega),show ((k+1:Nat):Int)-1=((k:Nat):Int) by omega,uIx (i:=k) rfl (by omega),uLd e,jv.r2_1,jv.zmt,yN,zd4,zO,zB,jv.v3];by_cases d:l.getD k 0=0
  ·rw [Zaa d,zD,zF,zM,jv.bJ,xw (by omega)];refine hR k _ _ _ _ (by omega) ⟨by congr 1;omega,by omega,?_,H3⟩;rw [qG e,d] at hb;simpa using hb
  ·rw [Zab d,zC,zZ,yH,zA,jv.rG,zq3 hl1 hm];simp only [zJ,zT];rw [jv.ret];exact fin (ztx e d)
def cmpT (a b:List Nat):Nat->Int
 | 0=>0
 | k+1=>if a.getD k 0=b.getD k 0 then cmpT a b k else if a.getD k 0<b.getD k 0 then -1 else 1
def cmpW (a b:List Nat):Int:=if a.length≠b.length then (if a.length<b.length then -1 else 1) else cmpT a b a.length
theorem getD_some {l:List Nat} {k:Nat} (h:k<l.length):l[k]? = some (l.getD k 0):=by rw [Zac,List.getElem?_eq_getElem h];rfl
theorem jF {b:Nat} {l:List Nat} {k:Nat} (hb:0<b) (h:Dg b l):l.getD k 0<b:=by
 by_cases c:k<l.length
 ·exact h _ (Zae (getD_some c))
 ·rw [Zac,List.getElem?_eq_none (by omega)];exact hb
theorem zd5 {b:Nat} {x y:List Nat} (hb:0<b) (hx:Dg b x) (hy:Dg b y):∀ {k:Nat},k<=x.length->k<=y.length->cmpT x y k=(if bv b (x.take k)<bv b (y.take k) then -1 else if bv b (y.take k)<bv b (x.take k) then 1 else 0)
 | 0,_,_=>by simp [cmpT,bv]
 | k+1,h1,h2=>by
  have e1:=getD_some (l:=x) (k:=k) (by omega);have e2:=getD_some (l:=y) (k:=k) (by omega);have l1:=vI hb (hx.take (n:=k));have l2:=vI hb (hy.take (n:=k));rw [Zas,Zbz (by omega)] at l1 l2;rw [cmpT,qG e1,qG e2,zd5 hb hx hy (by omega) (by omega)]
  generalize bv b (x.take k)=X at *
  generalize bv b (y.take k)=Y at *
  generalize x.getD k 0=u at *
  generalize y.getD k 0=v at *
  generalize b ^ k=P at *
  by_cases c:u=v
  ·rw [if_pos c,c];simp only [Nat.add_lt_add_iff_right]
  ·rw [if_neg c];by_cases d:u<v
   ·have q:P*(u+1)<=P*v:=Zbc P d;rw [Zba,Zca] at q;have q1:X+P*u<Y+P*v:=by omega
    rw [if_pos d,if_pos q1]
   ·have q:P*(v+1)<=P*u:=Zbc P (by omega);rw [Zba,Zca] at q;have q1:Y+P*v<X+P*u:=by omega
    have q2:¬ X+P*u<Y+P*v:=by omega
    rw [if_neg d,if_neg q2,if_pos q1]
theorem mV {b z n:Nat} (hb:2<=b) (h:z<b ^ n):(dg b z).length<=n:=by
 induction n generalizing z with
 | zero=>rw [show z=0 by simp at h;exact h,kE];simp
 | succ n ih =>
  by_cases hz:z=0
  ·rw [hz,kE];simp
  ·rw [wO hb hz,Zbt];have:=ih (z:=z / b) (by rw [Zci (by omega),<- Zbh];exact h);omega
theorem zl7 {b z n:Nat} (hb:2<=b) (h:b ^ n<=z):n<(dg b z).length:=by
 induction n generalizing z with
 | zero=>rw [wO hb (by simp at h;omega)];simp
 | succ n ih =>
  have hp:0<b ^ (n+1):=Zcw (by omega);rw [wO hb (by omega),Zbt];have:=ih (z:=z / b) (by rw [Nat.le_div_iff_mul_le (by omega),<- Zbh];exact h);omega
theorem wI {b y z:Nat} (hb:2<=b) (h:(dg b y).length<(dg b z).length):y<z:=by
 rcases Zdw y z with q | q
 ·exact q
 ·exfalso
  have h1:=mV hb (z:=z) (n:=(dg b y).length) (Zev q (by
   have:=vI (b:=b) (by omega) (kF hb y).2.1
   rwa [(kF hb y).1] at this))
  omega
def cmpN (a b:Nat):Int:=if a<b then -1 else if b<a then 1 else 0
theorem zty {b x y:Nat} (hb:2<=b):cmpW (dg b x) (dg b y)=cmpN x y:=by
 unfold cmpW cmpN;by_cases c:(dg b x).length=(dg b y).length
 ·rw [if_neg (by simpa using c),zd5 (by omega) (kF hb x).2.1 (kF hb y).2.1 (Zah _) (by omega),Zfg,c,Zfg,(kF hb x).1,(kF hb y).1]
 ·rw [if_pos c];by_cases d:(dg b x).length<(dg b y).length
  ·rw [if_pos d,if_pos (wI hb d)]
  ·have:=wI hb (y:=y) (z:=x) (by omega);rw [if_neg d,if_neg (by omega),if_pos this]
theorem zi9 {a b:List Nat} (ha:a.length<=1000000) (hb:b.length<=1000000):Pure Tryz.prog B 261 [uw a,uw b] (· = I (cmpW a b)):=by
 refine yB fun h nx K H0 hK=>zP zS jA 1000010 fun hf' => ?_;have ret:∀ {h1 nx1 L} {z:Int},Hp h h1 nx1 L->z=cmpW a b->K (I z) h1 nx1=.ok True:=fun H e=>hK _ _ _ _ _ H (zY rfl) (by rw [e]);rw [ja.go,ja.t38,zA,ja.jm,zA,zA,ja.jl,fU,fU,vk,zB,ja.v4];by_cases c:a.length=b.length
 case neg =>
  rw [Zab (by omega),Zaj,zD,zA,zA,ja.qh,fU,fU,ug,zB,ja.v5];by_cases d:a.length<b.length
  ·rw [Zaa (by omega),zD,zA,ja.rC];simp only [zJ,zT];rw [ja.ret];exact ret H0 (by rw [cmpW,if_pos c,if_pos d])
  ·rw [Zab (by omega),zC,zF,zA,ja.rq];simp only [zJ,zT];rw [ja.ret];exact ret H0 (by rw [cmpW,if_pos c,if_neg d])
 rw [Zaa (by omega),Zag,zC,zF,zA,zA,ja.ng,fU,xw (by omega),zM];refine ja.zmu (fun m x3 h' nx'=>∃ k:Nat,x3=I ((k:Int)-1)/\m=k/\k<=a.length/\cmpT a b k=cmpT a b a.length/\Hp h h' nx' []) (m:=a.length) (by omega) ⟨a.length,rfl,rfl,by omega,rfl,H0⟩ ?_;rintro m z2 z3 z6 z7 z8 h3 nx3 R ⟨k,rfl,rfl,hk,hc,H3⟩ hR;rw [ja.t30,zA,zA,ja.fM,pz];cases m with
 | zero =>
  rw [Zab (by omega),zB,ja.v6,zC,zZ,yH,zA,ja.zam];simp only [zJ,zT];rw [ja.ret];exact ret H3 (by rw [cmpW,if_neg (fun q=>q c),<- hc];rfl)
 | succ k =>
  have ea:=getD_some (l:=a) (k:=k) (by omega);have eb:=getD_some (l:=b) (k:=k) (by omega);rw [cmpT] at hc;rw [Zaa (by omega),zB,ja.v6,zD,zF,zA,zM,zA,ja.ru,uIx (i:=k) (by omega) (by omega),uLd ea,uIx (i:=k) (by omega) (by omega),uLd eb,uNeq,zB,ja.v7];by_cases d:a.getD k 0=b.getD k 0
  ·rw [if_pos d] at hc;rw [Zaa d,Zag,zC,zF,ja.aA,xw (by omega)];exact hR k _ _ _ _ _ _ _ (by omega) ⟨k,by congr 1;omega,rfl,by omega,hc,H3⟩
  ·rw [if_neg d] at hc;rw [Zab d,Zaj,zD,zA,zA,ja.rV,uIx (i:=k) (by omega) (by omega),uLd ea,uIx (i:=k) (by omega) (by omega),uLd eb,uLss,zB,ja.v8];by_cases e:a.getD k 0<b.getD k 0
   ·rw [if_pos e] at hc;rw [Zaa e,zD,zA,ja.ah];simp only [zJ,uA,zT];rw [ja.ret];exact ret H3 (by rw [cmpW,if_neg (fun q=>q c),<- hc])
   ·rw [if_neg e] at hc;rw [Zab e,zC,zF,zA,ja.aZ];simp only [zJ,uA,zT];rw [ja.ret];exact ret H3 (by rw [cmpW,if_neg (fun q=>q c),<- hc])
def Sz (z:Nat):Prop:=(dg 18446744073709551616 z).length<=100000
theorem zq4 {x y:Nat} (hx:Sz x) (hy:Sz y):Pure Tryz.prog B 261 [uw (dg 18446744073709551616 x),uw (dg 18446744073709551616 y)] (· = I (cmpN x y)):=by
 rw [<- zty (b:=18446744073709551616) (by decide)];unfold Sz at hx hy;exact zi9 (by omega) (by omega)
theorem gN {α:Type} {A C:List α} {x y:α} {i:Nat} (h:A.length=i):(A++x::C).set i y=A++y::C:=by
 subst h;rw [Zdp _ _ (Zah _),Zdl];rfl
theorem zko (n:Nat):List.replicate n (U 0)=(List.replicate n 0).map U:=by rw [List.map_replicate]
theorem zyr (b n:Nat):bv b (List.replicate n 0)=0:=by
 induction n with
 | zero=>rfl
 | succ n ih=>rw [Zbw,bv,ih];simp
theorem Dg.append {b:Nat} {l m:List Nat} (h1:Dg b l) (h2:Dg b m):Dg b (l++m):=fun x hx=>by
 rcases List.mem_append.1 hx with q | q
 ·exact h1 x q
 ·exact h2 x q
theorem Dg.one {b x:Nat} (h:x<b):Dg b [x]:=fun y hy=>by rw [List.mem_singleton.1 hy];exact h
theorem Dg.rep {b n:Nat} (h:0<b):Dg b (List.replicate n 0):=fun x hx=>by rw [(List.mem_replicate.1 hx).2];exact h
theorem yA {b:Nat} {l:List Nat} {i:Nat}:bv b (l.take (i+1))=bv b (l.take i)+b ^ i*l.getD i 0:=by
 by_cases c:i<l.length
 ·exact qG (getD_some c)
 ·rw [Zad (by omega),Zad (by omega),Zac,List.getElem?_eq_none (by omega)];simp
theorem zcu {P b X Y x y c Z:Nat} (h:Z+P*c=X+Y):(Z+P*((x+y+c)%b))+P*b*((x+y+c) / b)=(X+P*x)+(Y+P*y):=by
 have e:P*((x+y+c)%b)+P*b*((x+y+c) / b)=P*(x+y+c):=by rw [Zbb,<- Zba,Zct]
 have e2:P*(x+y+c)=P*x+P*y+P*c:=by rw [Zba,Zba]
 omega
theorem sMk1 {n:Nat} {x:Int} {h0 h:T Blk} {nx:Pa} {L:List Ob} {K:Kw Prop} (H:Hp h0 h nx L) (hx:x=(n:Int)) (hn:n<=1000000)
  (hK:∀ id h' nx',Hp h0 h' nx' (.arr id ((List.replicate n 0).map U)::L)->K (.sl id 0 n (some n) 1) h' nx'=.ok True):uD 1 8 [(.int .u64 0)] (I x) (I x) h nx K=.ok True :=
 H.mk1 n hx hx hn (by omega) fun id h' nx' H'=>hK id h' nx' (by rw [<- zko];exact H')
theorem zkp {x y:List Nat} (hx:Dg 18446744073709551616 x) (hy:Dg 18446744073709551616 y) (lx:x.length<=100000) (hxy:y.length<=x.length) {h0:T Blk} {K:Kw Prop} {h:T Blk} {nx:Pa} {x2 x3 x4 x5 x6 x7 x8 x9 x10 x11:AV} (H0:Hp h0 h nx [])
  (hK:∀ (v:AV) (h':T Blk) (nx':Pa) (L:List Ob) (v':AV),Hp h0 h' nx' L->sU h0 h' v v'->v'=uw (dg 18446744073709551616 (bv 18446744073709551616 x+bv 18446744073709551616 y))->K v h' nx'=.ok True) :
  IR.run yc.t34 (CS Tryz.prog B) 1000010 (fnO yc.res K) (yx yc.res K) (yc.fr (uw x) (uw y) x2 x3 x4 x5 x6 x7 x8 x9 x10 x11) h nx=.ok True:=by
 rw [yc.t34,zA,yc.bJ,fU,jy (by omega)];refine sMk1 (n:=x.length+1) H0 (by omega) (by omega) fun id h1 nx1 H1 => ?_;rw [zA,yc.mg,zA,zA,yc.rq,fU,zM];refine yc.zmx (fun m x4 x9 h' nx'=>∃ (i c:Nat) (Z:List Nat),x4=U c/\x9=I (i:Int)/\m+i=x.length/\Z.length=i/\Dg 18446744073709551616 Z/\c<=1/\bv 18446744073709551616 Z+18446744073709551616 ^ i*c=bv 18446744073709551616 (x.take i)+bv 18446744073709551616 (y.take i)/\Hp h0 h' nx' [.arr id ((Z++List.replicate (m+1) 0).map U)]) (m:=x.length) (by omega) ⟨0,0,[],rfl,rfl,rfl,rfl,fun _ h=>by simp at h,by omega,by simp [bv],H1⟩ ?_;rintro m z4 z5 z6 z9 z10 z11 h3 nx3 R ⟨i,c,Z,rfl,rfl,hm,hZ,hd,hc,hs,H3⟩ hR;rw [yc.t24,zA,yc.sH,ug];by_cases ci:i<x.length
 case neg =>
  have hm0:m=0:=by omega
  subst hm0;rw [Zab (by omega),zA,zB,yc.v10,zC,zZ,yH,zA,yc.aA,fU,sIx (i:=x.length) (by omega) (by omega)];refine H3.store (k:=0) rfl (by simp;omega) rfl fun h4 H4 => ?_;rw [zA,yc.zft];have e:((Z++List.replicate (0+1) 0).map U).set x.length (U c)=(Z++[c]).map U:=by
   rw [Zat,Zat];exact gN (by rw [Zaz];omega)
  simp only [Zbq] at H4;rw [e] at H4;have hl:(Z++[c]).length=x.length+1:=by simp;omega
  have hcW:c<18446744073709551616:=by omega
  obtain ⟨h5,hkp,H5,hF⟩:=H4.letU hl;refine vY hkp (.cons hF .nil) ?_;refine wC (hd.append (Dg.one hcW)) (by omega) (by omega) _ _ _ _ ?_;rintro _ rfl _;simp only [zJ,zT];rw [yc.ret];refine hK _ _ _ _ _ H5 (zY (gS _)) ?_;rw [gG,hZ];rw [hs,Zad (by omega),Zad (by omega)]
 have ex:=getD_some (l:=x) (k:=i) ci;rw [Zaa (by omega),zA,zB,yc.v10,zD,zF,zA,zM,zA,yc.rG,zA,yc.fZ,zA,zA,yc.ng,fU,ug,zB,yc.v11];by_cases cj:i<y.length
 ·rw [Zaa (by omega),zD,yc.fM,uIx (i:=i) rfl cj,uLd (getD_some cj)];rw [yc.ru,yc.zan,yc.zav,uIx (i:=i) rfl ci,uLd ex,yc.zd1,yc.zaw];refine vE hc _ _ _ _ ?_;rintro _ rfl _;rw [yc.zqa,yc.zjs,yL,yI,sIx (i:=i) rfl (by omega)];refine H3.store (k:=0) rfl (by simp;omega) rfl fun h4 H4 => ?_;rw [yc.zp9,yc.zjt,yc.sV,jy (by omega)];refine hR (m-1) _ _ _ _ _ _ _ _ (by omega) ⟨i+1,(x.getD i 0+y.getD i 0+c) / 18446744073709551616,Z++[(x.getD i 0+y.getD i 0+c)%18446744073709551616],rfl,by congr 1,by omega,by simp;omega,hd.append (Dg.one (Zbl _ (by decide))),?_,?_,?_⟩
  ·exact zcr (jF (by decide) hx) (jF (by decide) hy) hc
  ·rw [gG,hZ,yA,yA,Zbh];exact zcu hs
  ·have e:((Z++List.replicate (m+1) 0).map U).set i (U ((x.getD i 0+y.getD i 0+c)%18446744073709551616))=((Z++[(x.getD i 0+y.getD i 0+c)%18446744073709551616])++List.replicate (m-1+1) 0).map U:=by
    rw [Zat,Zbw,Zbr,gN (by rw [Zaz];omega),Zat,Zat,Zbg,show m-1+1=m by omega];rfl
   rw [<- e];exact H4
 ·have e0:y.getD i 0=0:=by rw [Zac,List.getElem?_eq_none (by omega)];rfl
  rw [Zab (by omega),zC,zF,show AV.int .u64 0=U (y.getD i 0) by rw [e0];rfl];rw [yc.ru,yc.zan,yc.zav,uIx (i:=i) rfl ci,uLd ex,yc.zd1,yc.zaw];refine vE hc _ _ _ _ ?_;rintro _ rfl _;rw [yc.zqa,yc.zjs,yL,yI,sIx (i:=i) rfl (by omega)];refine H3.store (k:=0) rfl (by simp;omega) rfl fun h4 H4 => ?_;rw [yc.zp9,yc.zjt,yc.sV,jy (by omega)];refine hR (m-1) _ _ _ _ _ _ _ _ (by omega) ⟨i+1,(x.getD i 0+y.getD i 0+c) / 18446744073709551616,Z++[(x.getD i 0+y.getD i 0+c)%18446744073709551616],rfl,by congr 1,by omega,by simp;omega,hd.append (Dg.one (Zbl _ (by decide))),?_,?_,?_⟩
  ·exact zcr (jF (by decide) hx) (jF (by decide) hy) hc
  ·rw [gG,hZ,yA,yA,Zbh];exact zcu hs
  ·have e:((Z++List.replicate (m+1) 0).map U).set i (U ((x.getD i 0+y.getD i 0+c)%18446744073709551616))=((Z++[(x.getD i 0+y.getD i 0+c)%18446744073709551616])++List.replicate (m-1+1) 0).map U:=by
    rw [Zat,Zbw,Zbr,gN (by rw [Zaz];omega),Zat,Zat,Zbg,show m-1+1=m by omega];rfl
   rw [<- e];exact H4
theorem zys {x y:List Nat} (hx:Dg 18446744073709551616 x) (hy:Dg 18446744073709551616 y) (lx:x.length<=100000) (ly:y.length<=100000):Pure Tryz.prog B 260 [uw x,uw y] (· = uw (dg 18446744073709551616 (bv 18446744073709551616 x+bv 18446744073709551616 y))):=by
 refine yB fun h nx K H0 hK=>zP zS jA 1000010 fun hf => ?_;rw [yc.go,yc.t36,zA,yc.jm,zA,zA,yc.jl,fU,fU,ug,zB,yc.v7];by_cases c:x.length<y.length
 ·rw [Zaa (by omega),zD,yc.qh];exact zkp hy hx ly (by omega) H0 fun v h' nx' L v' a b e=>hK v h' nx' L v' a b (by rw [e,Zcs])
 ·rw [Zab (by omega),zC,zF];exact zkp hx hy lx (by omega) H0 hK
theorem zd6 {P b X Y x y c Z:Nat} (hx:x<b) (hy:y<b) (hc:c<=1) (h:Z+Y=X+P*c) (hb:1<=b) :
  (Z+P*((x+b-y-c)%b))+(Y+P*y)=(X+P*x)+P*b*(if x<y+c then 1 else 0):=by
 have q:(x+b-y-c)%b+y+c=x+b*(if x<y+c then 1 else 0):=by
  by_cases d:x<y+c
  ·rw [if_pos d,Zao (by omega)];omega
  ·rw [if_neg d,show x+b-y-c=(x-y-c)+b by omega,Zfv,Zao (by omega)];omega
 have e:=congrArg (P * ·) q;simp only [Zba] at e;rw [Zbb P b];omega
theorem zyt {x y:List Nat} (hx:Dg 18446744073709551616 x) (hy:Dg 18446744073709551616 y) (l1:1<=x.length) (lx:x.length<=100000) (ly:y.length<=x.length) (hv:bv 18446744073709551616 y<=bv 18446744073709551616 x):Pure Tryz.prog B 262 [uw x,uw y] (· = uw (dg 18446744073709551616 (bv 18446744073709551616 x-bv 18446744073709551616 y))):=by
 refine yB fun h nx K H0 hK=>zP zS jA 1000010 fun hf => ?_;rw [yg.go,yg.t29,zA,yg.jm,zA,yg.jl,fU];refine sMk1 (n:=x.length) H0 rfl (by omega) fun id h1 nx1 H1 => ?_;rw [zA,yg.qh,zA,zA,yg.rC,fU,zM];refine yg.zmy (fun m x4 x8 h' nx'=>∃ (i c:Nat) (Z:List Nat),x4=U c/\x8=I (i:Int)/\m+i=x.length/\Z.length=i/\Dg 18446744073709551616 Z/\c<=1/\bv 18446744073709551616 Z+bv 18446744073709551616 (y.take i)=bv 18446744073709551616 (x.take i)+18446744073709551616 ^ i*c/\Hp h h' nx' [.arr id ((Z++List.replicate m 0).map U)]) (m:=x.length) (by omega) ⟨0,0,[],rfl,rfl,rfl,rfl,fun _ h=>by simp at h,by omega,by simp [bv],H1⟩ ?_;rintro m z4 z5 z6 z8 z9 z10 h3 nx3 R ⟨i,c,Z,rfl,rfl,hm,hZ,hd,hc,hs,H3⟩ hR;rw [yg.t20,zA,yg.rD,ug];by_cases ci:i<x.length
 case neg =>
  have hm0:m=0:=by omega
  subst hm0;rw [Zab (by omega),zA,zB,yg.v9,zC,zZ,yH,zA,yg.aF];simp only [Zem,Zce] at H3;obtain ⟨h5,hkp,H5,hF⟩:=H3.letU (n:=x.length) (by omega);refine vY hkp (.cons hF .nil) ?_;refine wC hd (by omega) (by omega) _ _ _ _ ?_;rintro _ rfl _;simp only [zJ,zT];rw [yg.ret];refine hK _ _ _ _ _ H5 (zY (gS _)) ?_;rw [Zad (by omega),Zad (by omega)] at hs;have hlt:=vI (b:=18446744073709551616) (by decide) hd;rw [hZ] at hlt;have c0:c=0:=by
   rcases Zcc c with q | q
   ·exact q
   ·have:18446744073709551616 ^ i*1<=18446744073709551616 ^ i*c:=Zbc _ q;omega
  subst c0
  congr 2
  omega
 have ex:=getD_some (l:=x) (k:=i) ci;rw [Zaa (by omega),zA,zB,yg.v9,zD,zF,zA,zM,zA,yg.mg,zA,yg.rq,zA,zA,yg.sH,fU,ug,zB,yg.v10];by_cases cj:i<y.length
 ·rw [Zaa (by omega),zD,yg.ay,uIx (i:=i) rfl cj,uLd (getD_some cj)];rw [yg.ng,yg.r9_0,yg.zaj,uIx (i:=i) rfl ci,uLd ex,yg.r9_1,yg.aB];refine zff hc _ _ _ _ ?_;rintro _ rfl _;rw [yg.r9_2,yg.aC,yL,yI,sIx (i:=i) rfl (by omega)];refine H3.store (k:=0) rfl (by simp;omega) rfl fun h4 H4 => ?_;rw [yg.r9_3,yg.zeh,yg.rV,jy (by omega)];refine hR (m-1) _ _ _ _ _ _ _ _ (by omega) ⟨i+1,if x.getD i 0<y.getD i 0+c then 1 else 0,Z++[(x.getD i 0+18446744073709551616-y.getD i 0-c)%18446744073709551616],rfl,by congr 1,by omega,by simp;omega,hd.append (Dg.one (Zbl _ (by decide))),?_,?_,?_⟩
  ·split <;> omega
  ·rw [gG,hZ,yA,yA,Zbh];exact zd6 (jF (by decide) hx) (jF (by decide) hy) hc hs (by decide)
  ·have e:((Z++List.replicate m 0).map U).set i (U ((x.getD i 0+18446744073709551616-y.getD i 0-c)%18446744073709551616))=((Z++[(x.getD i 0+18446744073709551616-y.getD i 0-c)%18446744073709551616])++List.replicate (m-1) 0).map U:=by
    obtain ⟨k,rfl⟩:∃ k,m=k+1:=⟨m-1,by omega⟩;rw [Zat,Zbw,Zbr,gN (by rw [Zaz];omega),Zat,Zat,Zbg];rfl
   rw [<- e];exact H4
 ·have e0:y.getD i 0=0:=by rw [Zac,List.getElem?_eq_none (by omega)];rfl
  rw [Zab (by omega),zC,zF,show AV.int .u64 0=U (y.getD i 0) by rw [e0];rfl];rw [yg.ng,yg.r9_0,yg.zaj,uIx (i:=i) rfl ci,uLd ex,yg.r9_1,yg.aB];refine zff hc _ _ _ _ ?_;rintro _ rfl _;rw [yg.r9_2,yg.aC,yL,yI,sIx (i:=i) rfl (by omega)];refine H3.store (k:=0) rfl (by simp;omega) rfl fun h4 H4 => ?_;rw [yg.r9_3,yg.zeh,yg.rV,jy (by omega)];refine hR (m-1) _ _ _ _ _ _ _ _ (by omega) ⟨i+1,if x.getD i 0<y.getD i 0+c then 1 else 0,Z++[(x.getD i 0+18446744073709551616-y.getD i 0-c)%18446744073709551616],rfl,by congr 1,by omega,by simp;omega,hd.append (Dg.one (Zbl _ (by decide))),?_,?_,?_⟩
  ·split <;> omega
  ·rw [gG,hZ,yA,yA,Zbh];exact zd6 (jF (by decide) hx) (jF (by decide) hy) hc hs (by decide)
  ·have e:((Z++List.replicate m 0).map U).set i (U ((x.getD i 0+18446744073709551616-y.getD i 0-c)%18446744073709551616))=((Z++[(x.getD i 0+18446744073709551616-y.getD i 0-c)%18446744073709551616])++List.replicate (m-1) 0).map U:=by
    obtain ⟨k,rfl⟩:∃ k,m=k+1:=⟨m-1,by omega⟩;rw [Zat,Zbw,Zbr,gN (by rw [Zaz];omega),Zat,Zat,Zbg];rfl
   rw [<- e];exact H4
theorem zq5 {N P Q b p z c X Y y x:Nat} (h:N+P*Q*c=X+P*(x*Y)) (hp:p=x*y) :
  (N+P*Q*((p+z+c)%b))+P*(Q*b)*((p+z+c) / b)=(X+P*Q*z)+P*(x*(Y+Q*y)):=by
 have e:P*Q*((p+z+c)%b)+P*(Q*b)*((p+z+c) / b)=P*Q*(p+z+c):=by
  rw [<- Zbb P Q b,Zbb (P*Q) b,<- Zba,Zct]
 have e2:P*Q*(p+z+c)=P*Q*p+P*Q*z+P*Q*c:=by rw [Zba,Zba]
 have e3:P*(x*(Y+Q*y))=P*(x*Y)+P*Q*p:=by
  rw [hp,Zba,Zba,<- Zbb x Q y,Zaw x Q,Zbb Q x y,<- Zbb P Q]
 omega
theorem zyu {a b:List Nat} (ha:Dg 18446744073709551616 a) (hb:Dg 18446744073709551616 b) (l1:1<=a.length+b.length) (la:a.length<=100000) (lb:b.length<=100000):Pure Tryz.prog B 265 [uw a,uw b] (· = uw (dg 18446744073709551616 (bv 18446744073709551616 a*bv 18446744073709551616 b))):=by
 refine yB fun h nx K H0 hK=>zP zS jA 1000010 fun hf => ?_;rw [zy.go,zy.t47,zA,zy.jm,zA,zy.jl,fU,fU,jy (by omega)];refine sMk1 (n:=a.length+b.length) H0 (by omega) (by omega) fun id h1 nx1 H1 => ?_;rw [zA,zA,zy.qh,fU,zM];refine zy.zzd (fun m x14 h' nx'=>∃ (i:Nat) (Z:List Nat),x14=I (i:Int)/\m+i=a.length/\Z.length=i+b.length/\Dg 18446744073709551616 Z/\bv 18446744073709551616 Z=bv 18446744073709551616 (a.take i)*bv 18446744073709551616 b/\Hp h h' nx' [.arr id ((Z++List.replicate m 0).map U)]) (m:=a.length) (by omega) ⟨0,List.replicate b.length 0,rfl,rfl,by simp,Dg.rep (by decide),by rw [zyr];simp [bv],by rw [List.replicate_append_replicate,Zcs];exact H1⟩ ?_;rintro m z4 z5 z6 z7 z8 z9 z10 z11 z14 z15 z16 z17 z18 z19 h3 nx3 R ⟨i,Z,rfl,hm,hZ,hd,hs,H3⟩ hR;rw [zy.t39,zA,zy.rC,ug];by_cases ci:i<a.length
 case neg =>
  have hm0:m=0:=by omega
  subst hm0;rw [Zab (by omega),zA,zB,zy.v15,zC,zZ,yH,zA,zy.zas];simp only [Zem,Zce] at H3;obtain ⟨h5,hkp,H5,hF⟩:=H3.letU (n:=a.length+b.length) (by omega);refine vY hkp (.cons hF .nil) ?_;refine wC hd (by omega) (by omega) _ _ _ _ ?_;rintro _ rfl _;simp only [zJ,zT];rw [zy.ret];refine hK _ _ _ _ _ H5 (zY (gS _)) ?_;rw [hs,Zad (by omega)]
 have ex:=getD_some (l:=a) (k:=i) ci;have hxW:=jF (k:=i) (by decide) ha;rw [Zaa (by omega),zA,zB,zy.v15,zD,zF,zA,zM,zA,zy.bJ,uIx (i:=i) rfl ci,uLd ex,zA,zy.mg,zA,zA,zy.rq,fU,zM];obtain ⟨k,rfl⟩:∃ k,m=k+1:=⟨m-1,by omega⟩
 generalize hx:a.getD i 0=x at *
 refine zy.zzc (fun n x6 x18 h' nx'=>∃ (j c:Nat) (N:List Nat),x6=U c/\x18=I (j:Int)/\n+j=b.length/\c<18446744073709551616/\N.length=i+j/\Dg 18446744073709551616 N/\bv 18446744073709551616 N+18446744073709551616 ^ i*18446744073709551616 ^ j*c=bv 18446744073709551616 (Z.take (i+j))+18446744073709551616 ^ i*(x*bv 18446744073709551616 (b.take j))/\Hp h h' nx' [.arr id ((N++(Z.drop (i+j)++List.replicate (k+1) 0)).map U)]) (m:=b.length) (by omega) ⟨0,0,Z.take i,rfl,rfl,rfl,by decide,by simp [hZ],hd.take,by simp [bv],by rw [Zcf,<- Zbg,Zdf];exact H3⟩ ?_;rintro n y6 y7 y8 y9 y10 y11 y18 y19 h4 nx4 R4 ⟨j,c,N,rfl,rfl,hn,hc,hN,hdN,hsN,H4⟩ hR4;rw [zy.t27,zA,zy.sH,ug];by_cases cj:j<b.length
 case neg =>
  have hj:j=b.length:=by omega
  subst hj;rw [Zab (by omega),zA,zB,zy.v19,zC,zZ,yH,zy.zfv,fU,jy (by omega),sIx (i:=i+b.length) (by omega) (by omega)];rw [show Z.drop (i+b.length)=[] from Zfc (by omega),Zco,Zbw] at H4;refine H4.store (k:=0) rfl (by simp;omega) rfl fun h5 H5 => ?_;rw [zy.o9,jy (by omega)];refine hR k _ _ _ _ _ _ _ _ _ _ _ _ _ _ _ _ (by omega) ⟨i+1,N++[c],by congr 1,by omega,by simp;omega,hdN.append (Dg.one hc),?_,?_⟩
  ·rw [gG,hN,Zcn,hsN,Zad (by omega),Zad (by omega),hs,yA,hx,Zam,Zbb]
  ·simp only [Zbq] at H5;rw [Zat,Zbr,gN (by rw [Zaz];omega)] at H5;rw [Zat,Zat,Zbg];exact H5
 have ey:=getD_some (l:=b) (k:=j) cj;have hyW:=jF (k:=j) (by decide) hb;have ez:=getD_some (l:=Z) (k:=i+j) (by omega);have hzW:=jF (k:=i+j) (by decide) hd;rw [Zaa (by omega),zA,zB,zy.v19,zD,zF,zA,zM,zA,zy.rG,uIx (i:=j) rfl cj,uLd ey,zA,zy.fZ]
 generalize hy:b.getD j 0=y at *
 generalize hz:Z.getD (i+j) 0=z at *
 refine zfg hxW hyW _ _ _ _ ?_;rintro _ rfl _;have hp:x*y<=340282366920938463426481119284349108225:=Zbd (show x<=18446744073709551615 by omega) (show y<=18446744073709551615 by omega);have hsplit:Z.drop (i+j)++List.replicate (k+1) 0=z::(Z.drop (i+(j+1))++List.replicate (k+1) 0):=by
  rw [Zax (show i+j<Z.length by omega),Zch];rw [List.getElem?_eq_getElem (show i+j<Z.length by omega)] at ez;rw [Option.some.inj ez];rfl
 rw [hsplit] at H4;have ld:((N++z::(Z.drop (i+(j+1))++List.replicate (k+1) 0)).map U)[i+j]? = some (U z):=uGet (by rw [List.getElem?_append_right (by omega),show i+j-N.length=0 by omega];rfl);rw [yL,yI,zA,zy.ng,zA,zy.fM,zy.zan,zy.zav,jy (by omega),sIx (i:=i+j) (by omega) (by omega),H4.load (k:=0) rfl ld];refine vE (c:=0) (by omega) _ _ _ _ ?_;rintro _ rfl _;rw [zy.zd1,zy.zaw,yL,yI,zA,zy.nP,uAdd,zA,zy.sJ];refine vE (c:=0) (by omega) _ _ _ _ ?_;rintro _ rfl _;rw [yL,yI,zy.ru,jy (by omega),uAdd,sIx (i:=i+j) (by omega) (by omega)];refine H4.store (k:=0) rfl (by simp;omega) rfl fun h5 H5 => ?_;rw [zy.aF,jy (by omega)];have e1:((x*y%18446744073709551616+z+0)%18446744073709551616+c+0)%18446744073709551616=(x*y+z+c)%18446744073709551616:=by omega
 have e2:((x*y / 18446744073709551616+(x*y%18446744073709551616+z+0) / 18446744073709551616)%18446744073709551616+((x*y%18446744073709551616+z+0)%18446744073709551616+c+0) / 18446744073709551616)%18446744073709551616=(x*y+z+c) / 18446744073709551616:=by
  generalize x*y=p at *
  omega
 rw [e1] at H5;rw [e2];refine hR4 (n-1) _ _ _ _ _ _ _ _ _ _ (by omega) ⟨j+1,(x*y+z+c) / 18446744073709551616,N++[(x*y+z+c)%18446744073709551616],rfl,by congr 1,by omega,?_,by simp;omega,hdN.append (Dg.one (Zbl _ (by decide))),?_,?_⟩
 ·generalize x*y=p at *
  omega
 ·rw [gG,hN,Zcn,show i+(j+1)=(i+j)+1 by omega,yA,yA,hz,hy,Zbh,Zcn];exact zq5 hsN rfl
 ·simp only [Zbq] at H5;rw [Zat,Zbr,gN (by rw [Zaz];omega)] at H5;rw [Zat,Zat,Zbg];exact H5
theorem uShl {m n:Nat} {k:IntKind} {K:AV->OP} (hn:n<=64):zi .shl .int (U m) (.int k (n:Int)) K=K (U (m*2 ^ n%18446744073709551616)):=by
 have e:zi .shl .int (U m) (.int k (n:Int)) K=(bif ilt (n:Int) 0 then Out.no 5 else qw (IntKind.u64.wrap ((m:Int)*(2 ^ (min (n:Int).toNat IntKind.u64.bits)))) fun z=>K (.int .u64 z)):=by cases k <;> rfl
 have h0:ilt (n:Int) 0=false:=rfl;rw [e,h0,cond_false,gE];have hb:IntKind.u64.bits=64:=rfl;rw [hb,Zez,Zbz hn,show (m:Int)*2 ^ n=((m*2 ^ n:Nat):Int) by rw [Zeo,Int.natCast_pow];rfl,zi7]
theorem zja {a n i:Nat} (h:a<2 ^ i):a ||| n*2 ^ i=a+n*2 ^ i:=by
 have e:=Nat.shiftLeft_add_eq_or_of_lt h n;rw [Nat.shiftLeft_eq] at e;rw [Nat.or_comm,<- e,Zcs]
theorem uOr {a b c:Nat} {K:AV->OP} (ha:a<18446744073709551616) (hb:b<18446744073709551616) (h:a ||| b=c):zi .or .int (U a) (U b) K=K (U c):=by
 have e:zi .or .int (U a) (U b) K=qw (IntKind.u64.wrap ((BitVec.ofInt 64 (a:Int) ||| BitVec.ofInt 64 (b:Int)).toNat:Int)) fun z=>K (.int .u64 z):=rfl;have h1:(BitVec.ofInt 64 (a:Int) ||| BitVec.ofInt 64 (b:Int)).toNat=c:=by
  rw [BitVec.ofInt_natCast,BitVec.ofInt_natCast,BitVec.toNat_or,BitVec.toNat_ofNat,BitVec.toNat_ofNat,Zao ha,Zao hb,h]
 have h2:c<18446744073709551616:=by
  rw [<- h];exact Nat.or_lt_two_pow (n:=64) ha hb
 rw [e,gE,h1,zhh (by omega)]
def zcv:List UInt8:=[0,1,2,2,3,3,3,3,4,4,4,4,4,4,4,4,5,5,5,5,5,5,5,5,5,5,5,5,5,5,5,5,6,6,6,6,6,6,6,6,6,6,6,6,6,6,6,6,6,6,6,6,6,6,6,6,6,6,6,6,6,6,6,6,7,7,7,7,7,7,7,7,7,7,7,7,7,7,7,7,7,7,7,7,7,7,7,7,7,7,7,7,7,7,7,7,7,7,7,7,7,7,7,7,7,7,7,7,7,7,7,7,7,7,7,7,7,7,7,7,7,7,7,7,7,7,7,7,8,8,8,8,8,8,8,8,8,8,8,8,8,8,8,8,8,8,8,8,8,8,8,8,8,8,8,8,8,8,8,8,8,8,8,8,8,8,8,8,8,8,8,8,8,8,8,8,8,8,8,8,8,8,8,8,8,8,8,8,8,8,8,8,8,8,8,8,8,8,8,8,8,8,8,8,8,8,8,8,8,8,8,8,8,8,8,8,8,8,8,8,8,8,8,8,8,8,8,8,8,8,8,8,8,8,8,8,8,8,8,8,8,8,8,8,8,8,8,8,8,8,8,8,8,8,8,8]
theorem zl8:∀ i<256,(zcv[i]?).all (fun t=>decide (t.toNat<=8/\i<2 ^ t.toNat/\(0<i->2 ^ t.toNat<=2*i)))=true/\(zcv[i]?).isSome=true:=by decide
def zcw (x n:Nat):Prop:=n<=64/\x<2 ^ n/\(0<x->2 ^ n<=2*x)
theorem zcx {x n k:Nat} (h:zcw (x / 2 ^ k) n) (hx:2 ^ k<=x) (hn:n+k<=64):zcw x (n+k):=by
 obtain ⟨h1,h2,h3⟩:=h;have hp:0<2 ^ k:=Zcw (by omega);have h4:0<x / 2 ^ k:=Nat.div_pos hx hp;refine ⟨hn,?_,fun _ => ?_⟩
 ·rw [Zcn];exact (Zci hp).1 h2
 ·rw [Zcn];have:=Zak (2 ^ k) (h3 h4);have h5:=Zfo x (2 ^ k);rw [Zbb] at this;omega
theorem zkq {x n:Nat} {K:Kw Prop} {h:T Blk} {nx:Pa} {x2 x3 x4:AV} (hx:x<256) (hn:n<=1000) (hK:∀ t,zcw x t->t<=8->K (I ((n+t:Nat):Int)) h nx=.ok True) :
  IR.run jb.t20 (CS Tryz.prog B) 100 (fnO jb.res K) (yx jb.res K) (jb.fr (U x) (I (n:Int)) x2 x3 x4) h nx=.ok True:=by
 obtain ⟨a,b⟩:=zl8 x hx;obtain ⟨t,ht⟩:=Option.isSome_iff_exists.1 b;rw [ht] at a;simp only [Option.all_some,decide_eq_true_eq] at a;have hs:∀ K:AV->OP,zmz (.str zcv) (.int .u8 (x:Int)) K=K (.int .u8 (t.toNat:Int)):=fun K=>by
  show (match zcv[x]? with
   | some b=>vw b.toNat fun n=>K (.int .u8 (.ofNat n))
   | none=>.no 16)=_
  rw [ht];simp only [yR];rfl
 have hc:∀ K:AV->OP,wD .u8 (U x) K=K (.int .u8 (x:Int)):=fun K=>by
  show qw (u5 .u8 (x:Int)) (fun z=>K (.int .u8 z))=_;rw [gE,qN];have e:IntKind.wrap .u8 (x:Int)=(x:Int)%256:=by
   unfold IntKind.wrap;first | rfl | simp [IntKind.bits,IntKind.signed]
  rw [e,show (x:Int)%256=(x:Int) by omega]
 rw [jb.t20,zA,jb.sW,hc];rw [show (AV.str [0,1,2,2,3,3,3,3,4,4,4,4,4,4,4,4,5,5,5,5,5,5,5,5,5,5,5,5,5,5,5,5,6,6,6,6,6,6,6,6,6,6,6,6,6,6,6,6,6,6,6,6,6,6,6,6,6,6,6,6,6,6,6,6,7,7,7,7,7,7,7,7,7,7,7,7,7,7,7,7,7,7,7,7,7,7,7,7,7,7,7,7,7,7,7,7,7,7,7,7,7,7,7,7,7,7,7,7,7,7,7,7,7,7,7,7,7,7,7,7,7,7,7,7,7,7,7,7,8,8,8,8,8,8,8,8,8,8,8,8,8,8,8,8,8,8,8,8,8,8,8,8,8,8,8,8,8,8,8,8,8,8,8,8,8,8,8,8,8,8,8,8,8,8,8,8,8,8,8,8,8,8,8,8,8,8,8,8,8,8,8,8,8,8,8,8,8,8,8,8,8,8,8,8,8,8,8,8,8,8,8,8,8,8,8,8,8,8,8,8,8,8,8,8,8,8,8,8,8,8,8,8,8,8,8,8,8,8,8,8,8,8,8,8,8,8,8,8,8,8,8,8,8,8,8,8])=.str zcv from rfl,hs,zct (by omega),jy (by omega)];simp only [zJ,zT];rw [jb.ret,show (n:Int)+(t.toNat:Int)=((n+t.toNat:Nat):Int) by omega];exact hK _ ⟨by omega,a.2⟩ a.1
theorem zyv {x:Nat} (hx:x<18446744073709551616):Pure Tryz.prog B 312 [U x] (fun v=>∃ n:Nat,v=I (n:Int)/\zcw x n):=by
 intro p h nx K hK;refine zP zS jA 100 fun hf => ?_;have fin:∀ {n},zcw x n->K (I (n:Int)) h nx=.ok True:=fun h'=>hK _ ⟨_,rfl,h'⟩ hf;have s3:∀ (y n:Nat) (x2 x3 x4:AV),y<65536->n<=48->(∀ t,zcw y t->t<=16->K (I ((n+t:Nat):Int)) h nx=.ok True)->IR.run jb.t21 (CS Tryz.prog B) 100 (fnO jb.res K) (yx jb.res K) (jb.fr (U y) (I (n:Int)) x2 x3 x4) h nx=.ok True:=fun y n x2 x3 x4 hy hn hK'=>by
  rw [jb.t21,zA,zA,jb.fM,show (AV.int .u64 256)=U 256 from rfl,uGeq,zB,jb.v4];by_cases c:256<=y
  ·rw [Zaa c,zD,zA,jb.nP,show (AV.int .u64 8)=.int .u64 ((8:Nat):Int) from rfl,uShr (by omega),jb.sJ,jy (by omega),show (n:Int)+8=((n+8:Nat):Int) by omega];exact zkq (by omega) (by omega) fun t h1 h2=>by
    have:=hK' (t+8) (zcx h1 c (by omega)) (by omega)
    rwa [show n+(t+8)=n+8+t by omega] at this
  ·rw [Zab c,zC,zF];exact zkq (by omega) (by omega) fun t h1 h2=>hK' t h1 (by omega)
 have s2:∀ (y n:Nat) (x2 x3 x4:AV),y<4294967296->n<=32->(∀ t,zcw y t->t<=32->K (I ((n+t:Nat):Int)) h nx=.ok True)->IR.run jb.t22 (CS Tryz.prog B) 100 (fnO jb.res K) (yx jb.res K) (jb.fr (U y) (I (n:Int)) x2 x3 x4) h nx=.ok True:=fun y n x2 x3 x4 hy hn hK'=>by
  rw [jb.t22,zA,zA,jb.rq,show (AV.int .u64 65536)=U 65536 from rfl,uGeq,zB,jb.v3];by_cases c:65536<=y
  ·rw [Zaa c,zD,zA,jb.sH,show (AV.int .u64 16)=.int .u64 ((16:Nat):Int) from rfl,uShr (by omega),jb.ay,jy (by omega),show (n:Int)+16=((n+16:Nat):Int) by omega];exact s3 _ _ _ _ _ (by omega) (by omega) fun t h1 h2=>by
    have:=hK' (t+16) (zcx h1 c (by omega)) (by omega)
    rwa [show n+(t+16)=n+16+t by omega] at this
  ·rw [Zab c,zC,zF];exact s3 _ _ _ _ _ (by omega) (by omega) fun t h1 h2=>hK' t h1 (by omega)
 rw [jb.go,jb.t24,zA,jb.jm,zA,zA,jb.jl,show (AV.int .u64 4294967296)=U 4294967296 from rfl,uGeq,zB,jb.v2];by_cases c:4294967296<=x
 ·rw [Zaa c,zD,zA,jb.qh,show (AV.int .u64 32)=.int .u64 ((32:Nat):Int) from rfl,uShr (by omega),jb.rC];exact s2 _ 32 _ _ _ (by omega) (by omega) fun t h1 h2=>by
   have:=fin (zcx h1 c (by omega))
   rwa [show t+32=32+t by omega] at this
 ·rw [Zab c,zC,zF];exact s2 _ 0 _ _ _ (by omega) (by omega) fun t h1 h2=>by
   have:=fin h1
   rwa [show t=0+t by omega] at this
theorem zkr {x:Nat} (h1:1<=x) (hx:x<18446744073709551616):Pure Tryz.prog B 290 [U x] (fun v=>∃ s:Nat,v=I (s:Int)/\s<=63/\x*2 ^ s<18446744073709551616/\9223372036854775808<=x*2 ^ s):=by
 intro p h nx K hK;refine zP zS jA 100 fun hf => ?_;rw [bQ.go,bQ.t3,zA,bQ.jm,zA,bQ.jl];refine zyv hx _ _ _ _ ?_;rintro _ ⟨n,rfl,hn,h2,h3⟩ _;rw [xw (by omega)];simp only [zJ,zT];rw [bQ.ret,show (64:Int)-(n:Int)=((64-n:Nat):Int) by omega];have hn1:1<=n:=by
  rcases Zcc n with q | q
  ·subst q;simp at h2;omega
  ·exact q
 have e:2 ^ n*2 ^ (64-n)=18446744073709551616:=by rw [<- Zcn,show n+(64-n)=64 by omega]
 have hp:0<2 ^ (64-n):=Zcw (by omega);have g1:x*2 ^ (64-n)<2 ^ n*2 ^ (64-n):=Zef h2 hp;have g2:2 ^ n*2 ^ (64-n)<=2*x*2 ^ (64-n):=Zak _ (h3 (by omega));rw [Zbb 2] at g2;exact hK _ ⟨_,rfl,by omega,by omega,by omega⟩ hf
def Gs (b u1 u0 v1 v2 q r:Nat):Prop:=q*v1+r=u1/\u1*b+u0<(q+1)*(v1*b+v2)/\r<b
theorem zks {b u1 u0 v1 v2:Nat} (hv:1<=v1) (hvb:v1<=b) (hu:u0<b):Gs b u1 u0 v1 v2 (u1 / v1) (u1%v1):=by
 have hr:u1 / v1*v1+u1%v1=u1:=by rw [Zaw];exact Zdq u1 v1
 have h:=Zbl u1 (show 0<v1 by omega);refine ⟨hr,?_,by omega⟩;exact zkn (b:=b) (P:=1) (U:=u1*b+u0) (V:=v1*b+v2) (v2:=v2) (ul:=0) (vl:=0) (by simp) (by omega) hu (by simp) hr h
theorem zfi {b u1 u0 v1 v2 q r:Nat} (h:Gs b u1 u0 v1 v2 q r) (hu:u1<v1*b+v2) (hu0:u0<b) (ht:b<=q\/r*b+u0<q*v2):1<=q/\(q-1)*v1+(r+v1)=u1/\u1*b+u0<(q-1+1)*(v1*b+v2):=by
 obtain ⟨h1,h2,h3⟩:=h;have k:u1*b+u0<q*(v1*b+v2):=by
  rcases ht with c | c
  ·have e1:(u1+1)*b<=(v1*b+v2)*b:=Zak b hu;have e2:b*(v1*b+v2)<=q*(v1*b+v2):=Zak _ c;rw [Zam,Zbx] at e1;rw [Zaw (v1*b+v2) b] at e1;omega
  ·exact zqz (b:=b) (P:=1) (U:=u1*b+u0) (V:=v1*b+v2) (v1:=v1) (ul:=0) (vl:=0) (by simp) (by omega) (by simp) h1 c
 have hq:1<=q:=by
  rcases Zcc q with e | e
  ·subst e;simp at k
  ·exact e
 refine ⟨hq,?_,by rw [Zew hq];exact k⟩;have:(q-1)*v1+v1=q*v1:=by rw [<- Zdu,Nat.succ_eq_add_one,Zew hq]
 omega
theorem zq6 {b u1 u0 v1 v2 q r:Nat} (h1:q*v1+r=u1) (ht:q*v2<=r*b+u0):q*(v1*b+v2)<=u1*b+u0:=by
 have e1:q*(v1*b+v2)=q*v1*b+q*v2:=by rw [Zba,Zbb]
 have e2:u1*b=q*v1*b+r*b:=by rw [<- h1,Zam]
 omega
theorem bC {b u1 u0 v1 v2 q r:Nat} (h1:q*v1+r=u1) (hu:u1<v1*b+v2) (hv2:v2<b) (hr:b<=r):q<b/\q*v2<=r*b+u0:=by
 have hq:q<b:=by
  rcases Zdw q b with c | c
  ·exact c
  ·have:=Zak v1 c;rw [Zaw b v1] at this;omega
 refine ⟨hq,?_⟩;have e1:q*v2<=b*b:=Zbd (by omega) (by omega);have e2:b*b<=r*b:=Zak b hr;omega
theorem zyw {q t:Nat} (hq:q<4294967296) (ht:t<4294967296):(q*4294967296%18446744073709551616+t)%18446744073709551616=q*4294967296+t:=by omega
theorem uQuo {a b:Nat} {K:AV->OP} (hb:1<=b) (ha:a<18446744073709551616):zi .quo .int (U a) (U b) K=K (U (a / b)):=by
 have e:zi .quo .int (U a) (U b) K=(bif ieq (b:Int) 0 then Out.no 5 else qw (IntKind.u64.wrap ((a:Int).tdiv b)) fun z=>K (.int .u64 z)):=rfl;have h0:ieq (b:Int) 0=false:=by
  cases b with
  | zero=>omega
  | succ b=>rfl
 have h1:a / b<=a:=Zcu a b;rw [e,h0,cond_false,gE,show (a:Int).tdiv b=((a / b:Nat):Int) from rfl]
 generalize a / b=q at *
 rw [zhh (by omega)]
theorem uRem {a b:Nat} {K:AV->OP} (hb:1<=b) (ha:a<18446744073709551616):zi .rem .int (U a) (U b) K=K (U (a%b)):=by
 have e:zi .rem .int (U a) (U b) K=(bif ieq (b:Int) 0 then Out.no 5 else qw ((a:Int).tmod b) fun z=>K (.int .u64 z)):=rfl;have h0:ieq (b:Int) 0=false:=by
  cases b with
  | zero=>omega
  | succ b=>rfl
 rw [e,h0,cond_false,gE,show (a:Int).tmod b=((a%b:Nat):Int) from rfl]
theorem ztz {hi lo y s u l l1 l0 v1 v2 V q r N:Nat} {x19 x20:AV} {K:Kw Prop} {h3:T Blk} {nx3:Pa} (hN:18446744073709551616<=N) (hs:s<=63) (hall:(hi*18446744073709551616+lo)*2 ^ s=u*18446744073709551616+l) (hV:y*2 ^ s=V) (hv:V<18446744073709551616) (hVe:V=v1*4294967296+v2) (hv1:1<=v1) (hv1b:v1<=4294967296) (hv2b:v2<4294967296) (hle:l=l1*4294967296+l0) (hl1:l1<4294967296) (hl0:l0<4294967296) (huV':u<V)
  (e1:q*v1+r=u) (e2:u*4294967296+l1<(q+1)*(v1*4294967296+v2)) (e3:q<4294967296) (e4:q*v2<=r*4294967296+l1)
  (hK:K (.tup [U ((hi*18446744073709551616+lo) / y),U ((hi*18446744073709551616+lo)%y)]) h3 nx3=.ok True) :
  IR.run zo.t58 (CS Tryz.prog B) N (fnO zo.res K) (yx zo.res K) (zo.fr (U hi) (U lo) (U V) (.int .u64 0) (.int .u64 0) (U s) (U v1) (U v2) (U u) (U l) (U l1) (U l0) (U q) (U r) .u .u (.bool false) (.bool false) (.bool false) x19 x20 .u .u) h3 nx3=.ok True:=by
 have hp:0<2 ^ s:=Zcw (by omega);have e5:q*V<=u*4294967296+l1:=by rw [hVe];exact zq6 e1 e4
 rw [<- hVe] at e2;have e6:u*4294967296+l1-q*V<V:=by rw [Zam,Zbx] at e2;omega
 rw [zo.t58,zA,zo.o9,show (AV.int .u64 4294967296)=U 4294967296 from rfl,aX,uAdd,aX,zwp (c:=u*4294967296+l1-q*V) (by
  generalize q*V=A at *
  omega) (by omega),zA,zo.zfx]
 generalize hw:u*4294967296+l1-q*V=w at *
 have hwm:w-w / v1*v1=w%v1:=by
  have:=Zdq w v1;rw [Zaw] at this;omega
 have hwd:w / v1*v1<=w:=Zfo w v1;rw [uQuo (by omega) (by omega),zA,zo.zfy,aX,Zao (by omega),uSub hwd (by omega),hwm,zA,zM];refine zo.zzf (fun m x13 x15 h' nx'=>∃ q r:Nat,x15=U q/\x13=U r/\m=q/\q<18446744073709551616/\Gs 4294967296 w l0 v1 v2 q r/\h'=h3/\nx'=nx3) (m:=w / v1) (by have:=Zcu w v1;omega) ⟨_,_,rfl,rfl,rfl,by have:=Zcu w v1;omega,zks hv1 hv1b hl0,rfl,rfl⟩ ?_;rintro m z13 z15 z21 z22 h4 nx4 R ⟨t,r,rfl,rfl,hm,htW,hg,rfl,rfl⟩ hR;have hwV:w<v1*4294967296+v2:=by omega
 have fin2:∀ (t r:Nat) (x21 x22:AV),t*v1+r=w->w*4294967296+l0<(t+1)*(v1*4294967296+v2)->t<4294967296->t*v2<=r*4294967296+l0 ->
   IR.run zo.t54 (CS Tryz.prog B) N (fnO zo.res K) (yx zo.res K) (zo.fr (U hi) (U lo) (U V) (.int .u64 0) (.int .u64 0) (U s) (U v1) (U v2) (U u) (U l) (U l1) (U l0) (U q) (U r) (U w) (U t) (.bool false) (.bool false) (.bool false) x19 x20 x21 x22) h4 nx4=.ok True:=by
  intro t r x21 x22 f1 f2 f3 f4;have f5:t*V<=w*4294967296+l0:=by rw [hVe];exact zq6 f1 f4
  rw [<- hVe] at f2;have f6:w*4294967296+l0-t*V<V:=by rw [Zam,Zbx] at f2;omega
  rw [zo.t54,zA,zo.zf0,zo.zm6,zo.zsa,show (AV.int .u64 4294967296)=U 4294967296 from rfl,aX,uAdd,aX,uAdd,zo.zv2,zo.zsb,aX,zwp (c:=w*4294967296+l0-t*V) (by
   generalize t*V=A at *
   omega) (by omega),uShr (by omega)]
  simp only [zJ,zT];rw [zo.ret];have g:(hi*18446744073709551616+lo)*2 ^ s=(q*4294967296+t)*(y*2 ^ s)+(w*4294967296+l0-t*V):=by
   rw [hV,hall,Zam];have:q*4294967296*V=q*V*4294967296:=by rw [Zfr]
   omega
  obtain ⟨r,hr⟩:∃ r,w*4294967296+l0-t*V=r:=⟨_,rfl⟩;rw [hr] at g f6 ⊢;have d1:2 ^ s∣r:=by
   refine (Nat.dvd_add_right (Nat.dvd_trans (Nat.dvd_mul_left (2 ^ s) y) (Nat.dvd_mul_left (y*2 ^ s) (q*4294967296+t)))).1 ?_;rw [<- g];exact Nat.dvd_mul_left _ _
  obtain ⟨z,hz⟩:=d1;have ez:r / 2 ^ s=z:=by rw [hz];exact Nat.mul_div_cancel_left _ hp
  have g3:hi*18446744073709551616+lo=(q*4294967296+t)*y+z:=by
   refine Nat.eq_of_mul_eq_mul_right hp ?_;have e:=Zam ((q*4294967296+t)*y) z (2 ^ s);rw [e,g,hz,Zbb (q*4294967296+t) y,Zaw (2 ^ s) z]
  have g4:z<y:=by
   rw [<- ez,Zci hp,hV];exact f6
  obtain ⟨a1,a2⟩:=zcs g3 g4;rw [a1,a2] at hK;rw [ez,zyw e3 f3];exact hK
 have g3:=hg.2.2;rw [zo.t50,zA,zA,zo.zfz,zo.zm3,zo.zr9,show (AV.int .u64 4294967296)=U 4294967296 from rfl,uGeq];by_cases c1:4294967296<=t
 ·rw [Zaa c1];simp only [yW];rw [zo.zqc,zo.zjw];simp only [yW,zO];obtain ⟨d1,d2,d3⟩:=zfi hg hwV hl0 (.inl c1);rw [zB,zo.v21,zD,zF,zM,zA,zo.zdd,show (AV.int .u64 1)=U 1 from rfl,uSub d1 htW,zA,zo.zas,uAdd,Zao (show r+v1<18446744073709551616 by omega),zA,zo.zde,show (AV.int .u64 4294967296)=U 4294967296 from rfl,uGeq,zB,zo.v22];by_cases c3:4294967296<=r+v1
  ·obtain ⟨o1,o2⟩:=bC (u0:=l0) d2 hwV hv2b c3;rw [Zaa c3,zD,zZ,xH (id:=3) (i:=2) _ (by decide),yH];exact fin2 (t-1) (r+v1) _ _ d2 d3 o1 o2
  ·rw [Zab c3,zC,zF];exact hR (t-1) _ _ _ _ _ _ (by omega) ⟨t-1,r+v1,rfl,rfl,rfl,by omega,⟨d2,d3,by omega⟩,rfl,rfl⟩
 ·rw [Zab c1];simp only [yJ];rw [aX,aX,zo.zqc,zo.zjw];simp only [yJ];rw [uAdd,uGtr];simp only [zQ];have hpr:t*v2<=4294967295*4294967295:=Zbd (by omega) (by omega);rw [Zao (show t*v2<18446744073709551616 by omega),Zao (show 4294967296*r<18446744073709551616 by omega),Zao (show 4294967296*r+l0<18446744073709551616 by omega),Zaw 4294967296 r];by_cases c2:r*4294967296+l0<t*v2
  ·rw [Zaa c2];obtain ⟨d1,d2,d3⟩:=zfi hg hwV hl0 (.inr c2);rw [zB,zo.v21,zD,zF,zM,zA,zo.zdd,show (AV.int .u64 1)=U 1 from rfl,uSub d1 htW,zA,zo.zas,uAdd,Zao (show r+v1<18446744073709551616 by omega),zA,zo.zde,show (AV.int .u64 4294967296)=U 4294967296 from rfl,uGeq,zB,zo.v22];by_cases c3:4294967296<=r+v1
   ·obtain ⟨o1,o2⟩:=bC (u0:=l0) d2 hwV hv2b c3;rw [Zaa c3,zD,zZ,xH (id:=3) (i:=2) _ (by decide),yH];exact fin2 (t-1) (r+v1) _ _ d2 d3 o1 o2
   ·rw [Zab c3,zC,zF];exact hR (t-1) _ _ _ _ _ _ (by omega) ⟨t-1,r+v1,rfl,rfl,rfl,by omega,⟨d2,d3,by omega⟩,rfl,rfl⟩
  ·rw [Zab c2,zB,zo.v21,zC,zZ,yH];exact fin2 t r _ _ hg.1 hg.2.1 (by omega) (by omega)
theorem zq7 {hi lo y:Nat} (h1:hi<y) (hy:y<18446744073709551616) (hlo:lo<18446744073709551616):Pure Tryz.prog B 288 [U hi,U lo,U y] (· = .tup [U ((hi*18446744073709551616+lo) / y),U ((hi*18446744073709551616+lo)%y)]):=by
 intro p h nx K hK;refine zP zS jA 18446744073709551700 fun hf => ?_;have hN:18446744073709551616<=18446744073709551700:=by decide
 generalize 18446744073709551700=N at hN ⊢
 rw [zo.go,zo.t73,zA,zo.jm,zA,zA,zo.jl,zd4,Zab (by omega),zB,zo.v16,zC,zF,zA,zA,zo.rD,uLeq,Zab (by omega),zB,zo.v17,zC,zF,zA,zA,zo.rq,zd4,zB,zo.v18];by_cases c0:hi=0
 ·rw [Zaa c0,zD,zA,zo.sH,uQuo (by omega) hlo,uRem (by omega) hlo];simp only [zJ,zT];rw [zo.ret];exact hK _ (by rw [c0];simp) hf
 rw [Zab c0,zC,zF,zA,zo.ng];refine zkr (by omega) hy _ _ _ _ ?_;rintro _ ⟨s,rfl,hs,hv,hv2⟩ _;rw [zq1 (m:=s) rfl (by omega),zA,zo.fM,uShl (by omega),Zao hv,zA,zo.nP,dX,zA,zo.sJ,uAnd hv,zA,zo.ru,uShl (by omega)];have hp:0<2 ^ s:=Zcw (by omega);have hps:2 ^ s*2 ^ (64-s)=18446744073709551616:=by rw [<- Zcn,show s+(64-s)=64 by omega]
 have hq0:0<2 ^ (64-s):=Zcw (by omega);have hhi:hi*2 ^ s+2 ^ s<=y*2 ^ s:=by rw [<- Zdu];exact Zak _ h1
 have hlo1:lo / 2 ^ (64-s)<2 ^ s:=by rw [Zci hq0,hps];exact hlo
 rw [Zao (show hi*2 ^ s<18446744073709551616 by omega),show (AV.int .u64 64)=U 64 from rfl,uSub (by omega) (by omega),uShr (by omega),uOr (c:=hi*2 ^ s+lo / 2 ^ (64-s)) (by omega) (by omega) (by rw [Nat.or_comm,zja hlo1,Zcs]),zA,zo.rV,uShl (by omega)];have hlm:=Zbl (lo*2 ^ s) (show 0<18446744073709551616 by decide);have hld:lo*2 ^ s / 18446744073709551616=lo / 2 ^ (64-s):=by rw [<- hps,Zaw (2 ^ s) (2 ^ (64-s))];exact Zfi _ _ hp
 have hlz:lo*2 ^ s%18446744073709551616+18446744073709551616*(lo / 2 ^ (64-s))=lo*2 ^ s:=by rw [<- hld];exact Zct _ _
 have hall:(hi*18446744073709551616+lo)*2 ^ s=(hi*2 ^ s+lo / 2 ^ (64-s))*18446744073709551616+lo*2 ^ s%18446744073709551616:=by
  rw [Zam,Zam,Zfr];omega
 generalize lo*2 ^ s%18446744073709551616=l at *
 generalize hu:hi*2 ^ s+lo / 2 ^ (64-s)=u at *
 have huv:u<y*2 ^ s:=by omega
 generalize hV:y*2 ^ s=V at *
 rw [zA,zo.ah,dX,zA,zo.sW,uAnd hlm,zA,zo.zfw,uQuo (by omega) (by omega),zA,zo.sV,aX];have hVe:V=V / 4294967296*4294967296+V%4294967296:=by omega
 have hv1:1<=V / 4294967296:=by omega
 have hv1b:V / 4294967296<=4294967296:=by omega
 have hv2b:V%4294967296<4294967296:=by omega
 have hle:l=l / 4294967296*4294967296+l%4294967296:=by omega
 have hl1:l / 4294967296<4294967296:=by omega
 have hl0:l%4294967296<4294967296:=by omega
 generalize V / 4294967296=v1 at *
 generalize V%4294967296=v2 at *
 generalize l / 4294967296=l1 at *
 generalize l%4294967296=l0 at *
 have hdm:u / v1*v1<=u:=Zfo u v1;have hmod:u-u / v1*v1=u%v1:=by
  have:=Zdq u v1;rw [Zaw] at this;omega
 rw [Zao (by omega),uSub hdm (by omega),hmod,zA,zM];refine zo.zze (fun m x12 x13 h' nx'=>∃ q r:Nat,x12=U q/\x13=U r/\m=q/\q<18446744073709551616/\Gs 4294967296 u l1 v1 v2 q r/\h'=h/\nx'=nx) (m:=u / v1) (by have:=Zcu u v1;omega) ⟨_,_,rfl,rfl,rfl,by have:=Zcu u v1;omega,zks hv1 hv1b hl1,rfl,rfl⟩ ?_;rintro m z12 z13 z19 z20 h3 nx3 R ⟨q,r,rfl,rfl,hm,hqW,hg,rfl,rfl⟩ hR;have huV:u<v1*4294967296+v2:=by omega
 have fin1:∀ (q r:Nat) (x19 x20:AV),q*v1+r=u->u*4294967296+l1<(q+1)*(v1*4294967296+v2)->q<4294967296->q*v2<=r*4294967296+l1 ->
   IR.run zo.t58 (CS Tryz.prog B) N (fnO zo.res K) (yx zo.res K) (zo.fr (U hi) (U lo) (U V) (.int .u64 0) (.int .u64 0) (U s) (U v1) (U v2) (U u) (U l) (U l1) (U l0) (U q) (U r) .u .u (.bool false) (.bool false) (.bool false) x19 x20 .u .u) h3 nx3=.ok True:=fun q r x19 x20 e1 e2 e3 e4 =>
  ztz hN hs hall hV hv hVe hv1 hv1b hv2b hle hl1 hl0 huv e1 e2 e3 e4 (hK _ rfl hf)
 have g3:=hg.2.2;rw [zo.t33,zA,zA,zo.aZ,zo.zm0,zo.zr8,show (AV.int .u64 4294967296)=U 4294967296 from rfl,uGeq];by_cases c1:4294967296<=q
 ·rw [Zaa c1];simp only [yW];rw [zo.zqb,zo.zju];simp only [yW,zO];obtain ⟨d1,d2,d3⟩:=zfi hg huV hl1 (.inl c1);rw [zB,zo.v19,zD,zF,zM,zA,zo.zat,show (AV.int .u64 1)=U 1 from rfl,uSub d1 hqW,zA,zo.zu4,uAdd,Zao (show r+v1<18446744073709551616 by omega),zA,zo.zjv,show (AV.int .u64 4294967296)=U 4294967296 from rfl,uGeq,zB,zo.v20];by_cases c3:4294967296<=r+v1
  ·obtain ⟨o1,o2⟩:=bC (u0:=l1) d2 huV hv2b c3;rw [Zaa c3,zD,zZ,xH (id:=1) (i:=0) _ (by decide),yH];exact fin1 (q-1) (r+v1) _ _ d2 d3 o1 o2
  ·rw [Zab c3,zC,zF];exact hR (q-1) _ _ _ _ _ _ (by omega) ⟨q-1,r+v1,rfl,rfl,rfl,by omega,⟨d2,d3,by omega⟩,rfl,rfl⟩
 ·rw [Zab c1];simp only [yJ];rw [aX,aX,zo.zqb,zo.zju];simp only [yJ];rw [uAdd,uGtr];simp only [zQ];have hpr:q*v2<=4294967295*4294967295:=Zbd (by omega) (by omega);rw [Zao (show q*v2<18446744073709551616 by omega),Zao (show 4294967296*r<18446744073709551616 by omega),Zao (show 4294967296*r+l1<18446744073709551616 by omega),Zaw 4294967296 r];by_cases c2:r*4294967296+l1<q*v2
  ·rw [Zaa c2];obtain ⟨d1,d2,d3⟩:=zfi hg huV hl1 (.inr c2);rw [zB,zo.v19,zD,zF,zM,zA,zo.zat,show (AV.int .u64 1)=U 1 from rfl,uSub d1 hqW,zA,zo.zu4,uAdd,Zao (show r+v1<18446744073709551616 by omega),zA,zo.zjv,show (AV.int .u64 4294967296)=U 4294967296 from rfl,uGeq,zB,zo.v20];by_cases c3:4294967296<=r+v1
   ·obtain ⟨o1,o2⟩:=bC (u0:=l1) d2 huV hv2b c3;rw [Zaa c3,zD,zZ,xH (id:=1) (i:=0) _ (by decide),yH];exact fin1 (q-1) (r+v1) _ _ d2 d3 o1 o2
   ·rw [Zab c3,zC,zF];exact hR (q-1) _ _ _ _ _ _ (by omega) ⟨q-1,r+v1,rfl,rfl,rfl,by omega,⟨d2,d3,by omega⟩,rfl,rfl⟩
  ·rw [Zab c2,zB,zo.v19,zC,zZ,yH];exact fin1 q r _ _ hg.1 hg.2.1 (by omega) (by omega)
theorem uIxO {id:Pa} {off n i:Nat} {cap:Option Nat} {e':Nat} {kk:IntKind} {j:Int} {op:AV->OP} (hj:j=(i:Int)) (hi:i<n):zL 1 (.sl id off n cap e') (.int kk j) op=op (.ptr id (off+i)):=by
 subst hj;rw [wT hi];simp
theorem pM {A W C:List Nat} {i:Nat} (h:i<W.length):(A++(W++C))[A.length+i]? = some (W.getD i 0):=by
 rw [List.getElem?_append_right (by omega),Zcr,List.getElem?_append_left h,getD_some h]
theorem bB {A X Y C:List Nat} {x:Nat} {i:Nat} (h:X.length=i) {y:Nat}:((A++(X++x::Y++C)).map U).set (A.length+i) (U y)=(A++((X++[y])++Y++C)).map U:=by
 have e:A++(X++x::Y++C)=(A++X)++x::(Y++C):=by simp
 rw [e,Zat,Zbr,gN (by rw [Zaz,Zar];omega)];simp
theorem zkt {b:Nat} {l:List Nat} {m:Nat} (h:l.length=m+3):bv b l=((l.getD (m+2) 0*b+l.getD (m+1) 0)*b+l.getD m 0)*b ^ m+bv b (l.take m):=by
 have e:bv b l=bv b (l.take (m+2+1)):=by rw [Zad (by omega)]
 have p1:b ^ (m+1)=b ^ m*b:=Zbh ..;have p2:b ^ (m+2)=b ^ m*b*b:=by rw [show m+2=m+1+1 from rfl,Zbh,Zbh]
 rw [e,yA,yA,yA,p2,p1]
 generalize bv b (l.take m)=z
 generalize l.getD (m+2) 0=x2
 generalize l.getD (m+1) 0=x1
 generalize l.getD m 0=x0
 generalize b ^ m=P
 simp only [Zam];have a1:P*b*b*x2=x2*b*b*P:=by simp only [Zaw,Zcz]
 have a2:P*b*x1=x1*b*P:=by simp only [Zaw,Zcz]
 have a3:P*x0=x0*P:=Zaw _ _;omega
theorem zku {b:Nat} {l:List Nat} {m:Nat} (h:l.length=m+2):bv b l=(l.getD (m+1) 0*b+l.getD m 0)*b ^ m+bv b (l.take m):=by
 have e:bv b l=bv b (l.take (m+1+1)):=by rw [Zad (by omega)]
 rw [e,yA,yA,Zbh]
 generalize bv b (l.take m)=z
 generalize l.getD (m+1) 0=x1
 generalize l.getD m 0=x0
 generalize b ^ m=P
 simp only [Zam];have a2:P*b*x1=x1*b*P:=by simp only [Zaw,Zcz]
 have a3:P*x0=x0*P:=Zaw _ _;omega
theorem q9 {b:Nat} {l:List Nat} {m:Nat} (hb:0<b) (h:Dg b l) (hm:m<=l.length):bv b (l.take m)<b ^ m:=by
 have:=vI hb (h.take (n:=m))
 rwa [Zas,Zbz hm] at this
theorem zl9 {P b X u v c w q Vi Ui:Nat} (h:X+q*Vi=Ui+P*(c+w)) (hu:u<b) (hlo:(q*v+c)%b<b) (hw:w<=1) :
  (X+P*((u+b-(q*v+c)%b-w)%b))+q*(Vi+P*v)=(Ui+P*u)+P*b*((q*v+c) / b+(if u<(q*v+c)%b+w then 1 else 0)):=by
 have k:(u+b-(q*v+c)%b-w)%b+(q*v+c)%b+w=u+b*(if u<(q*v+c)%b+w then 1 else 0):=by
  generalize (q*v+c)%b=lo at *
  by_cases d:u<lo+w
  ·rw [if_pos d];by_cases e:lo+w=b/\u+b-lo-w=u+0
   ·rw [e.2,Zcf,Zao hu];omega
   ·rw [Zao (by omega)];omega
  ·rw [if_neg d,show u+b-lo-w=(u-lo-w)+b by omega,Zfv,Zao (by omega)];omega
 have k2:=Zct (q*v+c) b;have e:=congrArg (P * ·) k;have e2:=congrArg (P * ·) k2;simp only [Zba] at e e2;have e3:q*(Vi+P*v)=q*Vi+P*(q*v):=by rw [Zba,Zcz]
 rw [e3,Zba (P*b),Zbb P b,Zbb P b];rw [Zba] at h;omega
theorem zq8 {id:Pa} {A C X v:List Nat} {q R N:Nat} {L:List Ob} {h0 h:T Blk} {nx:Pa} {K:Kw Prop} {cap:Option Nat} {x5 x6 x7 x8 x9 x10 x11 x12 x13 x14 x15 x16 x17 x18 x19 x20 x21 x22 x23 x24 x25 x26 x2:AV}
  (H:Hp h0 h nx (.arr id ((A++(X++C)).map U)::L)) (hN:1000010<=N) (hX:X.length=v.length+1) (hdX:Dg 18446744073709551616 X) (hdv:Dg 18446744073709551616 v) (hn:v.length<=100000)
  (hval:bv 18446744073709551616 X+bv 18446744073709551616 v=18446744073709551616 ^ (v.length+1)+R) (hR0:R<18446744073709551616 ^ v.length) (hq:1<=q) (hqW:q<18446744073709551616)
  (hK:∀ (Y:List Nat) (h':T Blk) (nx':Pa),Y.length=v.length+1->Dg 18446744073709551616 Y->bv 18446744073709551616 Y=R->Hp h0 h' nx' (.arr id ((A++(Y++C)).map U)::L)->K (U (q-1)) h' nx'=.ok True) :
  IR.run zh.t76 (CS Tryz.prog B) N (fnO zh.res K) (yx zh.res K) (zh.fr (.sl id A.length (v.length+1) cap 1) (uw v) x2 (I v.length) (U q) x5 x6 x7 x8 x9 x10 x11 x12 x13 x14 x15 x16 x17 x18 x19 x20 x21 x22 x23 x24 x25 x26) h nx=.ok True:=by
 rw [zh.t76,zA,zh.zzi,zA,zA,zh.zjx,zM];refine zh.zzk (fun m x15 x25 h' nx'=>∃ (i c:Nat) (Y:List Nat),x15=U c/\x25=I (i:Int)/\m+i=v.length/\Y.length=i/\Dg 18446744073709551616 Y/\c<=1/\bv 18446744073709551616 Y+18446744073709551616 ^ i*c=bv 18446744073709551616 (X.take i)+bv 18446744073709551616 (v.take i)/\Hp h0 h' nx' (.arr id ((A++((Y++X.drop i)++C)).map U)::L)) (m:=v.length) (by omega) ⟨0,0,[],rfl,rfl,rfl,rfl,fun _ h=>by simp at h,by omega,by simp [bv],by simpa using H⟩ ?_;rintro m z15 z16 z25 z26 h3 nx3 R' ⟨i,c,Y,rfl,rfl,hm,hY,hd,hc,hs,H3⟩ hR;rw [zh.t67,zA,zh.zzj,ug];by_cases ci:i<v.length
 case neg =>
  have hi:i=v.length:=by omega
  subst hi;have ed:X.drop v.length=[X.getD v.length 0]:=by
   have:=getD_some (l:=X) (k:=v.length) (by omega);rw [List.getElem?_eq_getElem (by omega)] at this;rw [Zax (by omega),Option.some.inj this,Zfc (by omega)]
  rw [ed] at H3;have hxW:=jF (k:=v.length) (by decide) hdX;have hXv:bv 18446744073709551616 X=bv 18446744073709551616 (X.take v.length)+18446744073709551616 ^ v.length*X.getD v.length 0:=by
   rw [<- yA,Zad (by omega)]
  rw [Zad (Zah _)] at hs
  generalize hx:X.getD v.length 0=x at *
  have hYlt:=vI (b:=18446744073709551616) (by decide) hd;rw [hY] at hYlt;have hxc:x+c=18446744073709551616/\bv 18446744073709551616 Y=R:=by
   have e:bv 18446744073709551616 Y+18446744073709551616 ^ v.length*(x+c)=18446744073709551616 ^ v.length*18446744073709551616+R:=by rw [Zba,<- Zbh];omega
   have hP:0<18446744073709551616 ^ v.length:=Zcw (by decide)
   generalize 18446744073709551616 ^ v.length=P at *
   rcases Nat.lt_trichotomy (x+c) 18446744073709551616 with q | q | q
   ·have:P*(x+c+1)<=P*18446744073709551616:=Zbc P q;rw [Zba,Zca] at this;omega
   ·rw [q] at e;exact ⟨q,by omega⟩
   ·omega
  have ld:(((A++((Y++[x])++C))).map U)[A.length+v.length]? = some (U x):=by
   have:=uGet (pM (A:=A) (W:=Y++[x]) (C:=C) (i:=v.length) (by simp;omega));rw [this]
   congr 1
   rw [Zac,List.getElem?_append_right (by omega),show v.length-Y.length=0 by omega];rfl
  rw [Zab (by omega),zA,zB,zh.v26,zC,zZ,yH,zA,zh.znj,uIxO (i:=v.length) rfl (by omega),H3.load (k:=0) rfl ld,uAdd,uIxO (i:=v.length) rfl (by omega)];refine H3.store (k:=0) rfl (by simp;omega) rfl fun h4 H4 => ?_;rw [zA,zh.zf6,show (AV.int .u64 1)=U 1 from rfl,uSub hq hqW];simp only [zJ,zT];rw [zh.ret];simp only [Zbq] at H4;rw [show (Y++[x])++C=Y++x::[]++C by simp,bB hY,hxc.1,Nat.mod_self,Zce] at H4;refine hK (Y++[0]) _ _ (by simp;omega) (hd.append (Dg.one (by decide))) (by rw [gG,hxc.2];simp) H4
 have ev:=getD_some (l:=v) (k:=i) ci;have esp:Y++X.drop i=Y++X.getD i 0::X.drop (i+1):=by
  have:=getD_some (l:=X) (k:=i) (by omega);rw [List.getElem?_eq_getElem (by omega)] at this;rw [Zax (by omega),Option.some.inj this]
 rw [esp] at H3;have ld:(((A++((Y++X.getD i 0::X.drop (i+1))++C))).map U)[A.length+i]? = some (U (X.getD i 0)):=by
  rw [uGet (pM (A:=A) (W:=Y++X.getD i 0::X.drop (i+1)) (C:=C) (i:=i) (by simp;omega))]
  congr 2
  rw [Zac,List.getElem?_append_right (by omega),show i-Y.length=0 by omega];rfl
 rw [Zaa (by omega),zA,zB,zh.v26,zD,zF,zA,zM,zA,zh.zf5,zh.zjy,uIxO (i:=i) rfl (by omega),H3.load (k:=0) rfl ld,uIx (i:=i) rfl ci,uLd ev];refine vE hc _ _ _ _ ?_;rintro _ rfl _;simp only [zG];rw [yL,yI,uIxO (i:=i) rfl (by omega)];refine H3.store (k:=0) rfl (by simp;omega) rfl fun h4 H4 => ?_;rw [yI];simp only [zG];rw [zh.zni,jy (by omega)];refine hR (m-1) _ _ _ _ _ _ (by omega) ⟨i+1,(X.getD i 0+v.getD i 0+c) / 18446744073709551616,Y++[(X.getD i 0+v.getD i 0+c)%18446744073709551616],rfl,by congr 1,by omega,by simp;omega,hd.append (Dg.one (Zbl _ (by decide))),zcr (jF (by decide) hdX) (jF (by decide) hdv) hc,?_,?_⟩
 ·rw [gG,hY,yA,yA,Zbh];exact zcu hs
 ·simp only [Zbq] at H4;rw [bB hY] at H4;exact H4
theorem zt0 {id:Pa} {A C W v:List Nat} {q N:Nat} {L:List Ob} {h0 h:T Blk} {nx:Pa} {K:Kw Prop} {cap:Option Nat} {x5 x6 x7 x8 x9 x10 x11 x12 x13 x14 x15 x16 x17 x18 x19 x20 x21 x22 x23 x24 x25 x26 x2:AV}
  (H:Hp h0 h nx (.arr id ((A++(W++C)).map U)::L)) (hN:1000010<=N) (hW:W.length=v.length+1) (hdW:Dg 18446744073709551616 W) (hdv:Dg 18446744073709551616 v) (hn:v.length<=100000)
  (hqW:q<18446744073709551616) (hu:bv 18446744073709551616 W<(q+1)*bv 18446744073709551616 v) (hl:q*bv 18446744073709551616 v<=bv 18446744073709551616 W+bv 18446744073709551616 v)
  (hK:∀ (Y:List Nat) (h':T Blk) (nx':Pa),Y.length=v.length+1->Dg 18446744073709551616 Y->bv 18446744073709551616 Y=bv 18446744073709551616 W%bv 18446744073709551616 v->Hp h0 h' nx' (.arr id ((A++(Y++C)).map U)::L)->K (U (bv 18446744073709551616 W / bv 18446744073709551616 v)) h' nx'=.ok True) :
  IR.run zh.t80 (CS Tryz.prog B) N (fnO zh.res K) (yx zh.res K) (zh.fr (.sl id A.length (v.length+1) cap 1) (uw v) x2 (I v.length) (U q) x5 x6 x7 x8 x9 x10 x11 x12 x13 x14 x15 x16 x17 x18 x19 x20 x21 x22 x23 x24 x25 x26) h nx=.ok True:=by
 have hvlt:=vI (b:=18446744073709551616) (by decide) hdv;have hWlt:=vI (b:=18446744073709551616) (by decide) hdW;rw [hW] at hWlt;rw [zh.t80,zA,zh.zjv,zA,zA,zh.aA,zM];refine zh.zzg (fun m x9 x10 x21 h' nx'=>∃ (i c w:Nat) (X:List Nat),x9=U w/\x10=U c/\x21=I (i:Int)/\m+i=v.length/\X.length=i/\Dg 18446744073709551616 X/\w<=1/\c<18446744073709551616/\bv 18446744073709551616 X+q*bv 18446744073709551616 (v.take i)=bv 18446744073709551616 (W.take i)+18446744073709551616 ^ i*(c+w)/\Hp h0 h' nx' (.arr id ((A++((X++W.drop i)++C)).map U)::L)) (m:=v.length) (by omega) ⟨0,0,0,[],rfl,rfl,rfl,rfl,rfl,fun _ h=>by simp at h,by omega,by decide,by simp [bv],by simpa using H⟩ ?_;rintro m z9 z10 z11 z12 z13 z14 z21 z22 h3 nx3 R' ⟨i,c,w,X,rfl,rfl,rfl,hm,hX,hd,hw,hc,hs,H3⟩ hR;have esp:X++W.drop i=X++W.getD i 0::W.drop (i+1):=by
  have:=getD_some (l:=W) (k:=i) (by omega);rw [List.getElem?_eq_getElem (by omega)] at this;rw [Zax (by omega),Option.some.inj this]
 rw [esp] at H3;have ld:(((A++((X++W.getD i 0::W.drop (i+1))++C))).map U)[A.length+i]? = some (U (W.getD i 0)):=by
  rw [uGet (pM (A:=A) (W:=X++W.getD i 0::W.drop (i+1)) (C:=C) (i:=i) (by simp;omega))]
  congr 2
  rw [Zac,List.getElem?_append_right (by omega),show i-X.length=0 by omega];rfl
 have huW:=jF (k:=i) (by decide) hdW;rw [zh.t46,zA,zh.zft,ug];by_cases ci:i<v.length
 case neg =>
  have hi:i=v.length:=by omega
  subst hi;rw [Zab (by omega),zA,zB,zh.v22,zC,zZ,yH,zA,zh.zf3,zh.za3,zh.zei,uIxO (i:=v.length) rfl (by omega),H3.load (k:=0) rfl ld,zh.zd0,zh.zax];refine zff hw _ _ _ _ ?_;rintro _ rfl _;rw [zh.zv7,zh.zsg,yL,yI,uIxO (i:=v.length) rfl (by omega)];refine H3.store (k:=0) rfl (by simp;omega) rfl fun h4 H4 => ?_;rw [zh.zv6,zh.zsh,zA,zA,zh.zf4,zd4,zB,zh.v23];simp only [Zbq] at H4;rw [bB hX,Zfc (by omega),Zce] at H4;have hWv:bv 18446744073709551616 W=bv 18446744073709551616 (W.take v.length)+18446744073709551616 ^ v.length*W.getD v.length 0:=by
   rw [<- yA,Zad (by omega)]
  rw [Zad (Zah _)] at hs
  generalize W.getD v.length 0=u at *
  have hdX:Dg 18446744073709551616 (X++[(u+18446744073709551616-c-w)%18446744073709551616]):=hd.append (Dg.one (Zbl _ (by decide)));have hlX:(X++[(u+18446744073709551616-c-w)%18446744073709551616]).length=v.length+1:=by simp;omega
  have hXlt:=vI (b:=18446744073709551616) (by decide) hdX;rw [hlX] at hXlt;have main:bv 18446744073709551616 (X++[(u+18446744073709551616-c-w)%18446744073709551616])+q*bv 18446744073709551616 v=bv 18446744073709551616 W+18446744073709551616 ^ (v.length+1)*(if u<c+w then 1 else 0):=by
   have k:(u+18446744073709551616-c-w)%18446744073709551616+c+w=u+18446744073709551616*(if u<c+w then 1 else 0):=by
    by_cases d:u<c+w
    ·rw [if_pos d];by_cases e:c+w=18446744073709551616
     ·omega
     ·rw [Zao (by omega)];omega
    ·rw [if_neg d,show u+18446744073709551616-c-w=(u-c-w)+18446744073709551616 by omega,Zfv,Zao (by omega)];omega
   have e:=congrArg (18446744073709551616 ^ v.length * ·) k;simp only [Zba] at e;rw [gG,hX,hWv,Zbh,Zbb (18446744073709551616 ^ v.length)];rw [Zba] at hs;omega
  generalize X++[(u+18446744073709551616-c-w)%18446744073709551616]=Y at *
  by_cases d:u<c+w
  ·rw [if_pos d] at main ⊢;rw [Zab (by decide),zC,zF];rw [Zca] at main;have hq1:1<=q:=by
    rcases Zcc q with e | e
    ·subst e;omega
    ·exact e
   obtain ⟨k,rfl⟩:∃ k,q=k+1:=⟨q-1,by omega⟩;have ek:(k+1)*bv 18446744073709551616 v=k*bv 18446744073709551616 v+bv 18446744073709551616 v:=Zdu ..;have hk1:k*bv 18446744073709551616 v<=bv 18446744073709551616 W:=by omega
   have hr:bv 18446744073709551616 W-k*bv 18446744073709551616 v<bv 18446744073709551616 v:=by omega
   obtain ⟨a1,a2⟩:=zcs (U:=bv 18446744073709551616 W) (q:=k) (r:=bv 18446744073709551616 W-k*bv 18446744073709551616 v) (by omega) hr
   refine zq8 H4 hN hlX hdX hdv hn (R:=bv 18446744073709551616 W-k*bv 18446744073709551616 v) (by
    rw [ek] at main;omega) (Nat.lt_trans hr hvlt) hq1 hqW fun Y' h' nx' g1 g2 g3 g4 => ?_
   have:=hK Y' h' nx' g1 g2 (by rw [g3,a2]) g4
   rwa [a1] at this
  ·rw [if_neg d] at main ⊢;rw [Zaa rfl,zD,zA,zh.zzh];simp only [zJ,zT];rw [zh.ret];have hr:bv 18446744073709551616 Y<bv 18446744073709551616 v:=by rw [Zam,Zbx] at hu;omega
   obtain ⟨a1,a2⟩:=zcs (U:=bv 18446744073709551616 W) (q:=q) (r:=bv 18446744073709551616 Y) (by omega) hr;have:=hK Y _ _ hlX hdX a2.symm H4
   rwa [a1] at this
 have ev:=getD_some (l:=v) (k:=i) ci;have hvW:=jF (k:=i) (by decide) hdv;rw [Zaa (by omega),zA,zB,zh.v22,zD,zF,zA,zM,zA,zh.zfv,zA,zh.zm9,uIx (i:=i) rfl ci,uLd ev]
 generalize hvi:v.getD i 0=y at *
 generalize hui:W.getD i 0=u at *
 refine zfg hqW hvW _ _ _ _ ?_;rintro _ rfl _;rw [yL,yI,zA,zh.zdf,zA,zh.zam];refine vE (c:=0) (by omega) _ _ _ _ ?_;rintro _ rfl _;rw [yL,yI,zA,zh.zna,uAdd,zh.o9,zh.znb,zh.zsc,uIxO (i:=i) rfl (by omega),H3.load (k:=0) rfl ld,zh.zv5,zh.zsd];refine zff hw _ _ _ _ ?_;rintro _ rfl _;rw [zh.zv4,zh.zse,yL,yI,uIxO (i:=i) rfl (by omega)];refine H3.store (k:=0) rfl (by simp;omega) rfl fun h4 H4 => ?_;rw [zh.zv3,zh.zsf,zh.zas,jy (by omega)];have hp:q*y<=340282366920938463426481119284349108225:=Zbd (show q<=18446744073709551615 by omega) (show y<=18446744073709551615 by omega);have e1:(q*y%18446744073709551616+c+0)%18446744073709551616=(q*y+c)%18446744073709551616:=by omega
 have e2:(q*y / 18446744073709551616+(q*y%18446744073709551616+c+0) / 18446744073709551616)%18446744073709551616=(q*y+c) / 18446744073709551616:=by
  generalize q*y=p at *
  omega
 rw [e1] at H4 ⊢;rw [e2];refine hR (m-1) _ _ _ _ _ _ _ _ _ _ (by omega) ⟨i+1,(q*y+c) / 18446744073709551616,if u<(q*y+c)%18446744073709551616+w then 1 else 0,X++[(u+18446744073709551616-(q*y+c)%18446744073709551616-w)%18446744073709551616],rfl,rfl,by congr 1,by omega,by simp;omega,hd.append (Dg.one (Zbl _ (by decide))),by split <;> omega,?_,?_,?_⟩
 ·generalize q*y=p at *
  omega
 ·rw [gG,hX,yA,yA,hvi,hui,Zbh];exact zl9 hs huW (Zbl _ (by decide)) hw
 ·simp only [Zbq] at H4;rw [bB hX] at H4;exact H4
theorem zd7 {id:Pa} {A C W v:List Nat} {k q r o N:Nat} {L:List Ob} {h0 h:T Blk} {nx:Pa} {K:Kw Prop} {cap:Option Nat} {x7 x8 x9 x10 x11 x12 x13 x14 x15 x16 x17 x18 x19 x20 x21 x22 x23 x24 x25 x26 x2:AV}
  (H:Hp h0 h nx (.arr id ((A++(W++C)).map U)::L)) (hN:18446744073709551617<=N) (hk:v.length=k+2) (hW:W.length=v.length+1) (hdW:Dg 18446744073709551616 W) (hdv:Dg 18446744073709551616 v) (hn:v.length<=100000)
  (hqW:q<18446744073709551616) (hrW:r<18446744073709551616) (ho:o<=1) (hv1:1<=v.getD (k+1) 0) (hr:q*v.getD (k+1) 0+(r+18446744073709551616*o)=W.getD (k+2) 0*18446744073709551616+W.getD (k+1) 0) (hu:bv 18446744073709551616 W<(q+1)*bv 18446744073709551616 v)
  (hK:∀ (Y:List Nat) (h':T Blk) (nx':Pa),Y.length=v.length+1->Dg 18446744073709551616 Y->bv 18446744073709551616 Y=bv 18446744073709551616 W%bv 18446744073709551616 v->Hp h0 h' nx' (.arr id ((A++(Y++C)).map U)::L)->K (U (bv 18446744073709551616 W / bv 18446744073709551616 v)) h' nx'=.ok True) :
  IR.run zh.t81 (CS Tryz.prog B) N (fnO zh.res K) (yx zh.res K) (zh.fr (.sl id A.length (v.length+1) cap 1) (uw v) x2 (I v.length) (U q) (U r) (U o) x7 x8 x9 x10 x11 x12 x13 x14 x15 x16 x17 x18 x19 x20 x21 x22 x23 x24 x25 x26) h nx=.ok True:=by
 have dU:=zkt (b:=18446744073709551616) (l:=W) (m:=k) (by omega);have dV:=zku (b:=18446744073709551616) (l:=v) (m:=k) hk;have lU:=q9 (b:=18446744073709551616) (m:=k) (by decide) hdW (by omega);have lV:=q9 (b:=18446744073709551616) (m:=k) (by decide) hdv (by omega);have hu0:=jF (k:=k) (by decide) hdW;have hv2:=jF (k:=k) (by decide) hdv;have hv1W:=jF (k:=k+1) (by decide) hdv;rw [zh.t81,zA,zM];refine zh.zmx (fun m x4 x5 x6 h' nx'=>∃ q r o:Nat,x4=U q/\x5=U r/\x6=U o/\m=q/\q<18446744073709551616/\r<18446744073709551616/\o<=1/\q*v.getD (k+1) 0+(r+18446744073709551616*o)=W.getD (k+2) 0*18446744073709551616+W.getD (k+1) 0/\bv 18446744073709551616 W<(q+1)*bv 18446744073709551616 v/\h'=h/\nx'=nx) (m:=q) (by omega) ⟨q,r,o,rfl,rfl,rfl,rfl,hqW,hrW,ho,hr,hu,rfl,rfl⟩ ?_;rintro m z4 z5 z6 z7 z8 z18 z19 h3 nx3 R ⟨q,r,o,rfl,rfl,rfl,hm,hqW,hrW,ho,hr,hu,rfl,rfl⟩ hR;have fin:∀ (x7 x8 x18 x19:AV),q*v.getD k 0<=(r+18446744073709551616*o)*18446744073709551616+W.getD k 0->IR.run zh.t80 (CS Tryz.prog B) N (fnO zh.res K) (yx zh.res K) (zh.fr (.sl id A.length (v.length+1) cap 1) (uw v) x2 (I v.length) (U q) (U r) (U o) x7 x8 x9 x10 x11 x12 x13 x14 x15 x16 x17 x18 x19 x20 x21 x22 x23 x24 x25 x26) h3 nx3=.ok True:=fun _ _ _ _ e =>
  zt0 H (by omega) hW hdW hdv hn hqW hu (ztw dU dV lV hr (by omega) e hv1) hK
 rw [zh.t24,zA,zA,zh.fZ,zd4,zB,zh.v18];by_cases c0:o=0
 case neg =>
  rw [Zab c0,zC,zZ,yH];refine fin _ _ _ _ ?_;have h1:q*v.getD k 0<=18446744073709551616*18446744073709551616:=Zbd (by omega) (by omega);have h2:18446744073709551616*18446744073709551616<=(r+18446744073709551616*o)*18446744073709551616:=Zak _ (by omega);omega
 subst c0;rw [Zaa rfl,zD,zF,zM,zA,zh.nP,xw (by omega),uIx (i:=k) (by omega) (by omega),uLd (getD_some (by omega))];refine zfg hqW hv2 _ _ _ _ ?_;rintro _ rfl _;rw [yL,yI,zA,zA,zh.sJ,zh.r9_0,zh.zaj,uLss];have hsp:q*v.getD k 0 / 18446744073709551616*18446744073709551616+q*v.getD k 0%18446744073709551616=q*v.getD k 0:=by rw [Zaw];exact Zdq _ _
 have hlo:=Zbl (q*v.getD k 0) (show 0<18446744073709551616 by decide);have ld:∀ op:AV->OP,zH (.ptr id (A.length+k)) h3 op=op (U (W.getD k 0)):=fun op=>H.load (k:=0) rfl (uGet (pM (by omega)));rw [Zdx,Zcf] at fin;rw [Zdx,Zcf] at hr
 generalize hhi:q*v.getD k 0 / 18446744073709551616=hi at *
 generalize hlo':q*v.getD k 0%18446744073709551616=lo at *
 have DECL:r*18446744073709551616+W.getD k 0<q*v.getD k 0->1<=q/\(q-1)*v.getD (k+1) 0+((r+v.getD (k+1) 0+0)%18446744073709551616+18446744073709551616*((r+v.getD (k+1) 0+0) / 18446744073709551616))=W.getD (k+2) 0*18446744073709551616+W.getD (k+1) 0/\bv 18446744073709551616 W<(q-1+1)*bv 18446744073709551616 v:=fun e=>by
  have k1:=zqz dU lU dV hr e;have hq:1<=q:=by
   rcases Zcc q with e | e
   ·subst e;simp at k1
   ·exact e
  refine ⟨hq,?_,by rw [Zew hq];exact k1⟩;have e2:(q-1)*v.getD (k+1) 0+v.getD (k+1) 0=q*v.getD (k+1) 0:=by rw [<- Zdu,Nat.succ_eq_add_one,Zew hq]
  have e3:=Zct (r+v.getD (k+1) 0+0) 18446744073709551616;omega
 by_cases c1:hi<r
 ·rw [Zaa c1];simp only [yW];rw [zh.r9_1,zh.aB];simp only [gQ,yW];rw [zh.r9_2,zh.aC];simp only [zO];rw [zB,zh.v19,zD,zZ,xH (id:=1) (i:=0) _ (by decide),yH];refine fin _ _ _ _ ?_;have:(hi+1)*18446744073709551616<=r*18446744073709551616:=Zak _ c1;omega
 rw [Zab c1];simp only [yJ];rw [uEql];by_cases c2:hi=r
 ·rw [Zaa c2,zh.r9_1,zh.aB];simp only [yN];rw [xw (by omega),uIxO (i:=k) (by omega) (by omega),ld,uLeq];simp only [yJ,zO];rw [zh.r9_2,zh.aC];simp only [zQ];by_cases c3:lo<=W.getD k 0
  ·rw [Zaa c3,zB,zh.v19,zD,zZ,xH (id:=1) (i:=0) _ (by decide),yH];refine fin _ _ _ _ ?_;rw [<- hsp,c2];omega
  ·rw [Zab c3];have e:r*18446744073709551616+W.getD k 0<q*v.getD k 0:=by rw [<- hsp,c2];omega
   obtain ⟨d1,d2,d3⟩:=DECL e;rw [zB,zh.v19,zC,zF,zA,zh.ah,show (AV.int .u64 1)=U 1 from rfl,uSub d1 hqW,zh.sW,xw (by omega),uIx (i:=k+1) (by omega) (by omega),uLd (getD_some (by omega))];refine vE (c:=0) (by omega) _ _ _ _ ?_;rintro _ rfl _;rw [yL,yI];exact hR (q-1) _ _ _ _ _ _ _ _ _ (by omega) ⟨q-1,_,_,rfl,rfl,rfl,rfl,by omega,Zbl _ (by decide),by omega,d2,d3,rfl,rfl⟩
 ·rw [Zab c2,zh.r9_1,zh.aB];simp only [yM,yJ,zQ];rw [zh.r9_2,zh.aC];simp only [zQ];have e:r*18446744073709551616+W.getD k 0<q*v.getD k 0:=by
   have:(r+1)*18446744073709551616<=hi*18446744073709551616:=Zak _ (by omega);omega
  obtain ⟨d1,d2,d3⟩:=DECL e;rw [zB,zh.v19,zC,zF,zA,zh.ah,show (AV.int .u64 1)=U 1 from rfl,uSub d1 hqW,zh.sW,xw (by omega),uIx (i:=k+1) (by omega) (by omega),uLd (getD_some (by omega))];refine vE (c:=0) (by omega) _ _ _ _ ?_;rintro _ rfl _;rw [yL,yI];exact hR (q-1) _ _ _ _ _ _ _ _ _ (by omega) ⟨q-1,_,_,rfl,rfl,rfl,rfl,by omega,Zbl _ (by decide),by omega,d2,d3,rfl,rfl⟩
theorem top_le {b P U V u2 u1 u0 ul v1 v0 vl:Nat} (hU:U=((u2*b+u1)*b+u0)*P+ul) (hV:V=(v1*b+v0)*P+vl) (hvl:vl<P) (hv0:v0<b) (h:U<b*V):u2<=v1:=by
 rcases Zdw v1 u2 with q | q
 ·exfalso
  have a1:v1*b+v0+1<=(v1+1)*b:=by rw [Zam];omega
  have a2:(v1*b+v0+1)*P<=(v1+1)*b*P:=Zak _ a1;have a3:(v1+1)*b<=u2*b:=Zak _ q;have a4:V<=(v1+1)*b*P:=by rw [Zam (v1*b+v0),Zbx] at a2;omega
  have a5:b*V<=b*((v1+1)*b*P):=Zbc _ a4
  have a6:(v1+1)*b*b*P<=((u2*b+u1)*b+u0)*P:=Zak _ (by
   have:=Zak b a3;rw [Zam (u2*b)];omega)
  have a7:b*((v1+1)*b*P)=(v1+1)*b*b*P:=by simp only [Zaw,Zcz]
  omega
 ·exact q
theorem zyx {q v r u b:Nat} (h:q*v+r=u):q*v+(r+b*0)=u:=by rw [Zdx,Zcf];exact h
theorem zt1 {id p0:Pa} {A C W v:List Nat} {L:List Ob} {h0 h:T Blk} {nx:Pa} {K:Kw Prop} {cap:Option Nat}
  (H:Hp h0 h nx (.arr id ((A++(W++C)).map U)::L)) (h2:2<=v.length) (hW:W.length=v.length+1) (hdW:Dg 18446744073709551616 W) (hdv:Dg 18446744073709551616 v) (hn:v.length<=100000)
  (hv1:1<=v.getD (v.length-1) 0) (hlt:bv 18446744073709551616 W<18446744073709551616*bv 18446744073709551616 v)
  (hK:∀ (Y:List Nat) (h':T Blk) (nx':Pa),Y.length=v.length+1->Dg 18446744073709551616 Y->bv 18446744073709551616 Y=bv 18446744073709551616 W%bv 18446744073709551616 v->Hp h0 h' nx' (.arr id ((A++(Y++C)).map U)::L)->K (U (bv 18446744073709551616 W / bv 18446744073709551616 v)) h' nx'=.ok True) :
  (CS Tryz.prog B).fn 292 p0 [.sl id A.length (v.length+1) cap 1,uw v] h nx K=.ok True:=by
 obtain ⟨k,hk⟩:∃ k,v.length=k+2:=⟨v.length-2,by omega⟩;rw [show v.length-1=k+1 by omega] at hv1;refine jK (p:=.of 292) (K:=K) (zP zS jA 18446744073709551700 fun hf => ?_) fun _ _ _ _ q=>q;have hN:18446744073709551617<=18446744073709551700:=by decide
 generalize 18446744073709551700=N at hN ⊢
 have dU:=zkt (b:=18446744073709551616) (l:=W) (m:=k) (by omega);have dV:=zku (b:=18446744073709551616) (l:=v) (m:=k) hk;have lU:=q9 (b:=18446744073709551616) (m:=k) (by decide) hdW (by omega);have lV:=q9 (b:=18446744073709551616) (m:=k) (by decide) hdv (by omega);have hu0:=jF (k:=k) (by decide) hdW;have hu1:=jF (k:=k+1) (by decide) hdW;have hu2:=jF (k:=k+2) (by decide) hdW;have hv2:=jF (k:=k) (by decide) hdv;have hv1W:=jF (k:=k+1) (by decide) hdv;have lw:∀ (i:Nat) (op:AV->OP),i<W.length->zH (.ptr id (A.length+i)) h op=op (U (W.getD i 0)):=fun i op hi=>H.load (k:=0) rfl (uGet (pM hi));have htop:W.getD (k+2) 0<=v.getD (k+1) 0:=top_le dU dV lV hv2 hlt;rw [zh.go,zh.t86,zA,zh.jm,zA,zh.jl,fU,zA,zh.qh,zA,zh.rC,zA,zA,zh.rD,uIxO (i:=k+2) (by omega) (by omega),lw _ _ (by omega),xw (by omega),uIx (i:=k+1) (by omega) (by omega),uLd (getD_some (by omega)),uGeq,zB,zh.v17];by_cases c:v.getD (k+1) 0<=W.getD (k+2) 0
 ·have ce:W.getD (k+2) 0=v.getD (k+1) 0:=by omega
  obtain ⟨q,hq⟩:∃ q,q+1=18446744073709551616:=⟨18446744073709551615,rfl⟩;have hqe:(AV.int .u64 18446744073709551615)=U q:=by
   rw [show q=18446744073709551615 by omega];rfl
  rw [Zaa c,zD,zA,zh.bJ,hqe,zh.mg,zh.r5_0,zh.za1,xw (by omega),uIxO (i:=k+1) (by omega) (by omega),lw _ _ (by omega),xw (by omega),zh.r5_1,zh.za2,uIx (i:=k+1) (by omega) (by omega),uLd (getD_some (by omega))];refine vE (c:=0) (by omega) _ _ _ _ ?_;rintro _ rfl _;rw [zh.r5_2,zh.zw5,yL,yI];have e3:=Zct (W.getD (k+1) 0+v.getD (k+1) 0+0) 18446744073709551616
  dsimp only
  exact zd7 (q:=q) H hN hk hW hdW hdv hn (by omega) (Zbl _ (by decide)) (by omega) hv1 (by
   rw [ce];have:(q+1)*v.getD (k+1) 0=q*v.getD (k+1) 0+v.getD (k+1) 0:=Zdu ..;rw [hq] at this;omega) (by rw [hq];exact hlt) hK
 ·rw [Zab c,zC,zh.sH,zh.r6_0,zh.zw6,uIxO (i:=k+2) (by omega) (by omega),lw _ _ (by omega),xw (by omega),uIxO (i:=k+1) (by omega) (by omega),zh.r6_1,zh.zw7,lw _ _ (by omega),xw (by omega),uIx (i:=k+1) (by omega) (by omega),uLd (getD_some (by omega))];refine zq7 (by omega) hv1W hu1 _ _ _ _ ?_;rintro _ rfl _;rw [zh.r6_2,zh.zw8,yL,yI];have hr:(W.getD (k+2) 0*18446744073709551616+W.getD (k+1) 0) / v.getD (k+1) 0*v.getD (k+1) 0+(W.getD (k+2) 0*18446744073709551616+W.getD (k+1) 0)%v.getD (k+1) 0=W.getD (k+2) 0*18446744073709551616+W.getD (k+1) 0:=by
   rw [Zaw];exact Zdq _ _
  have hm:=Zbl (W.getD (k+2) 0*18446744073709551616+W.getD (k+1) 0) (show 0<v.getD (k+1) 0 by omega);have hq:(W.getD (k+2) 0*18446744073709551616+W.getD (k+1) 0) / v.getD (k+1) 0<18446744073709551616:=by
   rw [Zci (by omega)];have:(W.getD (k+2) 0+1)*18446744073709551616<=v.getD (k+1) 0*18446744073709551616:=Zak _ (by omega);omega
  dsimp only
  exact zd7 (o:=0) H hN hk hW hdW hdv hn hq (Nat.lt_trans hm hv1W) (by decide) hv1 (zyx hr) (zkn dU lU hu0 dV hr hm) hK
theorem zt2 {P b p X x c Z:Nat} (h:Z+P*c=X*p):(Z+P*((c+x*p)%b))+P*b*((c+x*p) / b)=(X+P*x)*p:=by
 have e:P*((c+x*p)%b)+P*b*((c+x*p) / b)=P*(c+x*p):=by rw [Zbb,<- Zba,Zct]
 rw [Zba] at e;have e2:(P*x)*p=P*(x*p):=Zbb ..;rw [Zam];omega
theorem zhi {p0:Pa} {l:List Nat} {s:Nat} {L:List Ob} {h0 h:T Blk} {nx:Pa} {K:Kw Prop} (H:Hp h0 h nx L) (hd:Dg 18446744073709551616 l) (hl:l.length<=100000) (hs:s<=63)
  (hK:∀ (id:Pa) (Z:List Nat) (h':T Blk) (nx':Pa),Z.length=l.length+1->Dg 18446744073709551616 Z->bv 18446744073709551616 Z=bv 18446744073709551616 l*2 ^ s->Hp h0 h' nx' (.arr id (Z.map U)::L)->K (.sl id 0 (l.length+1) (some (l.length+1)) 1) h' nx'=.ok True) :
  (CS Tryz.prog B).fn 291 p0 [uw l,I (s:Int)] h nx K=.ok True:=by
 refine jK (p:=.of 291) (K:=K) (zP zS jA 1000010 fun hf => ?_) fun _ _ _ _ q=>q;have hp:0<2 ^ s:=Zcw (by omega);have hps:2 ^ s*2 ^ (64-s)=18446744073709551616:=by rw [<- Zcn,show s+(64-s)=64 by omega]
 have hq0:0<2 ^ (64-s):=Zcw (by omega);rw [je.go,je.t25,zA,je.jm,zA,je.jl,fU,jy (by omega)];refine H.mk1 (l.length+1) (by omega) (by omega) (by omega) (by omega) fun id h1 nx1 H1 => ?_;rw [show (AV.int .u64 0)=U 0 from rfl,zko] at H1;rw [zA,zA,je.qh,fU,zM];refine je.znk (fun m x8 h' nx'=>∃ (i c:Nat) (Z:List Nat),x8=I (i:Int)/\m+i=l.length/\Z.length=i/\Dg 18446744073709551616 Z/\c<2 ^ s/\bv 18446744073709551616 Z+18446744073709551616 ^ i*c=bv 18446744073709551616 (l.take i)*2 ^ s/\Hp h0 h' nx' (.arr id ((Z++c::List.replicate m 0).map U)::L)) (m:=l.length) (by omega) ⟨0,0,[],rfl,rfl,rfl,fun _ h=>by simp at h,hp,by simp [bv],by simpa [Zbw] using H1⟩ ?_;rintro m z4 z5 z8 z9 z10 h3 nx3 R ⟨i,c,Z,rfl,hm,hZ,hdZ,hc,hsm,H3⟩ hR;have hcW:c<18446744073709551616:=by
  have:2 ^ s*1<=2 ^ s*2 ^ (64-s):=Zbc _ hq0;omega
 rw [je.t17,zA,je.rC,ug];by_cases ci:i<l.length
 case neg =>
  have hm0:m=0:=by omega
  subst hm0;rw [Zab (by omega),zA,zB,je.v9,zC,zZ,yH,zA,je.sV];simp only [zJ,zT];rw [je.ret];refine hK id (Z++[c]) _ _ (by simp;omega) (hdZ.append (Dg.one hcW)) ?_ (by simpa using H3);rw [gG,hZ,hsm,Zad (by omega)]
 obtain ⟨k,rfl⟩:∃ k,m=k+1:=⟨m-1,by omega⟩;have ex:=getD_some (l:=l) (k:=i) ci;have hxW:=jF (k:=i) (by decide) hd
 generalize hx:l.getD i 0=x at *
 have ld:((Z++c::List.replicate (k+1) 0).map U)[i]? = some (U c):=uGet (by rw [List.getElem?_append_right (by omega),show i-Z.length=0 by omega];rfl);have hxs:x*2 ^ s%18446744073709551616=(x%2 ^ (64-s))*2 ^ s:=by rw [<- hps,Zaw (2 ^ s) (2 ^ (64-s)),Zfj]
 have hxd:x*2 ^ s / 18446744073709551616=x / 2 ^ (64-s):=by rw [<- hps,Zaw (2 ^ s) (2 ^ (64-s)),Zfi _ _ hp]
 have hxm:=Zbl (x*2 ^ s) (show 0<18446744073709551616 by decide);have hx2:x / 2 ^ (64-s)<2 ^ s:=by rw [Zci hq0,hps];exact hxW
 have hsum:c+x*2 ^ s%18446744073709551616<18446744073709551616:=by
  have a1:x%2 ^ (64-s)+1<=2 ^ (64-s):=Zbl _ hq0;have a2:(x%2 ^ (64-s)+1)*2 ^ s<=2 ^ (64-s)*2 ^ s:=Zak _ a1;rw [Zaw (2 ^ (64-s)),hps,Zam,Zbx,<- hxs] at a2;omega
 have hmod:(c+x*2 ^ s)%18446744073709551616=c+x*2 ^ s%18446744073709551616:=by
  generalize x*2 ^ s=y at *
  omega
 have hdiv:(c+x*2 ^ s) / 18446744073709551616=x / 2 ^ (64-s):=by
  rw [<- hxd]
  generalize x*2 ^ s=y at *
  omega
 rw [Zaa (by omega),zA,zB,je.v9,zD,zF,zA,zM,zA,je.bJ,uIx (i:=i) rfl ci,uLd ex,zA,je.mg,sIx (i:=i) rfl (by omega),H3.load (k:=0) rfl ld,uShl (by omega),uOr (c:=c+x*2 ^ s%18446744073709551616) hcW hxm (by rw [hxs];exact zja hc),sIx (i:=i) rfl (by omega)];refine H3.store (k:=0) rfl (by simp;omega) rfl fun h4 H4 => ?_;simp only [Zbq] at H4;rw [Zat,Zbr,gN (by rw [Zaz];omega)] at H4;rw [zA,je.rq,bf,zB,je.v10];have hst:=zt2 (x:=x) (b:=18446744073709551616) hsm;rw [hmod,hdiv] at hst;by_cases cs:0<s
 ·rw [Zaa (by omega),zD,je.sH,jy (by omega),xw (by omega),show (64:Int)-(s:Int)=((64-s:Nat):Int) by omega,uShr (by omega),sIx (i:=i+1) (by omega) (by omega)];refine H4.store (k:=0) rfl (by simp;omega) rfl fun h5 H5 => ?_;simp only [Zbq] at H5;rw [Zbw,Zbr,show Z.map U++U (c+x*2 ^ s%18446744073709551616)::U 0::(List.replicate k 0).map U=(Z.map U++[U (c+x*2 ^ s%18446744073709551616)])++U 0::(List.replicate k 0).map U by simp,gN (by simp;omega)] at H5;rw [je.nP,jy (by omega)];refine hR k _ _ _ _ _ _ _ (by omega) ⟨i+1,x / 2 ^ (64-s),Z++[c+x*2 ^ s%18446744073709551616],by congr 1,by omega,by simp;omega,hdZ.append (Dg.one hsum),hx2,?_,?_⟩
  ·rw [gG,hZ,yA,hx,Zbh];exact hst
  ·simpa using H5
 ·have s0:s=0:=by omega
  have hz:x / 2 ^ (64-s)=0:=by subst s0;exact Zeh (by simpa using hxW)
  rw [hz] at hst;rw [Zab (by omega),zC,zF,je.nP,jy (by omega)];refine hR k _ _ _ _ _ _ _ (by omega) ⟨i+1,0,Z++[c+x*2 ^ s%18446744073709551616],by congr 1,by omega,by simp;omega,hdZ.append (Dg.one hsum),hp,?_,?_⟩
  ·rw [gG,hZ,yA,hx,Zbh];exact hst
  ·simpa [Zbw] using H4
theorem Hp.zyy {h0 h:T Blk} {nx:Pa} {L:List Ob} {id:Pa} {l:List Nat} {n m:Nat} (H:Hp h0 h nx (.arr id (l.map U)::L)) (hn:n<=l.length) (hm:n<=m):∃ h',qC h' h/\Hp h0 h' nx L/\sU h' h (.sl id 0 n (some m) 1) (uw (l.take n)):=by
 have e:uw (l.take n)=.lst 1 n ((l.map U).take n):=by unfold uw;rw [Zas,Zbz hn,Zfd]
 rw [e];exact ⟨_,zci,H.zwq,uj.zi8 (H.own _ (Zal ..)) (T.get_set_same _ _ _ _) hm (by simpa using hn) (zq2 l)⟩
theorem zwr {id:Pa} {n i:Nat} {op:AV->OP} (hn:1<=n) (hi:i<=n):kZ 1 (.sl id 0 n (some n) 1) none (some (I (i:Int))) none op=op (.sl id 0 i (some n) 1):=by
 have e:kZ 1 (.sl id 0 n (some n) 1) none (some (I (i:Int))) none op=(match bnd (some (I (i:Int))) n n with
  | none=>Out.no 17
  | some h=>bif Nat.beq n 0 then op (.sl id 0 (h-0) (some 0) 1) else vw (0+0*1) fun off=>vw (h-0) fun h=>vw (n-0) fun m=>op (.sl id off h (some m) 1)):=rfl
 rw [e,zcj hi];cases n with
 | zero=>omega
 | succ n=>simp only [yR,Nat.sub_zero];rfl
theorem one_step {b q r d a z A:Nat} (h:A=z*d+r) (hq:(r*b+a)=q*d+(r*b+a)%d):a+b*A=(q+b*z)*d+(r*b+a)%d:=by
 rw [h,Zam,Zba,Zbb,Zaw b r];omega
theorem zhj {k:Nat} {Q:List Nat}:List.replicate (k+1) 0++Q=List.replicate k 0++0::Q:=by
 rw [List.replicate_succ',Zbg];rfl
theorem zyz {l:List Nat} {d N:Nat} {h0 h:T Blk} {nx:Pa} {K:Kw Prop} {Kq:Ks Prop} {x2 x3 x4 x5 x6 x7 x8 x9 x10 x11 x12 x13 x14 x15 x16 x17 x18 x19 x20 x21:AV} (H:Hp h0 h nx []) (hN:1000010<=N) (hd:1<=d) (hdW:d<18446744073709551616) (hl:Dg 18446744073709551616 l) (hl1:1<=l.length) (hs:l.length<=100000)
  (hK:∀ v h' nx' L v',Hp h0 h' nx' L->sU h0 h' v v'->v'=.tup [uw (dg 18446744073709551616 (bv 18446744073709551616 l / d)),uw (dg 18446744073709551616 (bv 18446744073709551616 l%d))]->K v h' nx'=.ok True) :
  IR.run zn.t25 (CS Tryz.prog B) N (fnO zn.res K) Kq (zn.fr (uw l) (uw [d]) x2 x3 x4 x5 x6 x7 x8 x9 x10 x11 x12 x13 x14 x15 x16 x17 x18 x19 x20 x21) h nx=.ok True:=by
 rw [zn.t25,zA,zn.rq,fU];refine sMk1 (n:=l.length) H rfl (by omega) fun id h1 nx1 H1 => ?_;rw [zA,zn.sH,zA,zA,zn.ay,fU,xw (by omega),zM];refine zn.znk (fun m x5 x6 h' nx'=>∃ (r:Nat) (Q:List Nat),x5=U r/\x6=I ((m:Int)-1)/\m<=l.length/\Q.length=l.length-m/\Dg 18446744073709551616 Q/\r<d/\bv 18446744073709551616 (l.drop m)=bv 18446744073709551616 Q*d+r/\Hp h0 h' nx' [.arr id ((List.replicate m 0++Q).map U)]) (m:=l.length) (by omega) ⟨0,[],rfl,rfl,Zah _,by simp,fun _ h=>by simp at h,hd,by simp [bv],by simpa using H1⟩ ?_;rintro m z5 z6 z16 h3 nx3 R ⟨r,Q,rfl,rfl,hm,hQ,hdQ,hr,hv,H3⟩ hR;rw [zn.t17,zA,zA,zn.rG,pz];cases m with
 | zero =>
  rw [Zab (by omega),zB,zn.v16,zC,zZ,yH,zA,zn.sV];simp only [Zem,Zco] at H3;obtain ⟨h5,hkp,H5,hF⟩:=H3.letU (n:=l.length) (by omega);refine vY hkp (.cons hF .nil) ?_;refine wC hdQ (by omega) (by omega) _ _ _ _ ?_;rintro _ rfl _;refine H5.yu (l:=[U r]) rfl fun tb h6 nx6 H6 => ?_;obtain ⟨h7,hkp7,H7,hF7⟩:=H6.letU (l:=[r]) (n:=1) rfl;refine vY hkp7 (.cons hF7 .nil) ?_;refine wC (Dg.one (by omega)) (by simp) (by simp) _ _ _ _ ?_;rintro _ rfl _;simp only [zJ,zT];rw [zn.ret];refine hK _ _ _ _ _ H7 (jP (zY (gS _)) (zY (gS _))) ?_;rw [Zdt] at hv;obtain ⟨a1,a2⟩:=zcs hv hr;rw [a1,a2];first | rfl | simp [bv]
 | succ k =>
  have ea:=getD_some (l:=l) (k:=k) (by omega);have haW:=jF (k:=k) (by decide) hl;rw [Zaa (by omega),zB,zn.v16,zD,zF,zA,zM,zn.fM,uIx (i:=k) (by omega) (by omega),uLd ea,uIx (l:=[d]) (j:=0) (i:=0) rfl (by simp),uLd (x:=d) rfl];refine zq7 (by omega) hdW haW _ _ _ _ ?_;rintro _ rfl _;simp only [zG];rw [yL,yI,sIx (i:=k) (by omega) (by omega)];rw [zhj] at H3;refine H3.store (k:=0) rfl (by simp) rfl fun h4 H4 => ?_;rw [yI];simp only [zG];simp only [Zbq] at H4;rw [Zat,Zbr,gN (by simp)] at H4;have e0:l.drop k=l.getD k 0::l.drop (k+1):=by
   rw [List.getElem?_eq_getElem (by omega)] at ea;rw [Zax (by omega),Option.some.inj ea]
  have hdm:r*18446744073709551616+l.getD k 0=(r*18446744073709551616+l.getD k 0) / d*d+(r*18446744073709551616+l.getD k 0)%d:=by
   rw [Zaw _ d];exact (Zdq _ _).symm
  have hqW:(r*18446744073709551616+l.getD k 0) / d<18446744073709551616:=by
   rw [Zci (by omega)];have:(r+1)*18446744073709551616<=d*18446744073709551616:=Zak _ hr;omega
  rw [zn.sJ,xw (by omega)];refine hR k _ _ _ _ _ (by omega) ⟨(r*18446744073709551616+l.getD k 0)%d,(r*18446744073709551616+l.getD k 0) / d::Q,rfl,by congr 1;omega,by omega,by simp;omega,?_,Zbl _ (by omega),?_,by simpa using H4⟩
  ·exact (Dg.one hqW).append hdQ
  ·rw [e0,bv,bv];exact one_step hv hdm
theorem zma {P b Z X x y p q t:Nat} (h:p*Z+t=X+P*(x%p)) (hpq:p*q=b) :
  p*(Z+P*(x / p+y%p*q))+t=(X+P*x)+P*b*(y%p):=by
 have k:=Zct x p;have e:=congrArg (P * ·) k;simp only [Zba] at e;have e1:p*(Z+P*(x / p+y%p*q))=p*Z+P*(p*(x / p))+P*b*(y%p):=by
  rw [Zba,Zba,Zba,<- hpq];have a1:p*(P*(x / p))=P*(p*(x / p)):=Zcz ..;have a2:p*(P*(y%p*q))=P*(p*q)*(y%p):=by
   simp only [Zaw,Zcz]
  omega
 omega
theorem zt3 {W v Q:List Nat} {V s R N m:Nat} {id qid:Pa} {h0 h:T Blk} {nx:Pa} {K:Kw Prop} {Kq:Ks Prop} {x0 x1 x2 x3 x4 x5 x6 x8 x12 x13 x14 x15 x16 x17 x18 x19 x20 x21:AV} {qn:Nat}
  (H:Hp h0 h nx [.arr qid (Q.map U),.arr id (W.map U)]) (hN:1000010<=N) (hQ:Q.length=qn) (hQ1:1<=qn) (hQs:qn<=100001) (hdQ:Dg 18446744073709551616 Q) (hdW:Dg 18446744073709551616 W) (hm:m+1<=W.length) (hm1:1<=m) (hms:W.length<=100001) (hs:s<=63) (hval:bv 18446744073709551616 W=R*2 ^ s) (hlt:bv 18446744073709551616 W<18446744073709551616 ^ m)
  (hK:∀ v h' nx' L v',Hp h0 h' nx' L->sU h0 h' v v'->v'=.tup [uw (dg 18446744073709551616 (bv 18446744073709551616 Q)),uw (dg 18446744073709551616 R)]->K v h' nx'=.ok True) :
  IR.run zn.t66 (CS Tryz.prog B) N (fnO zn.res K) Kq (zn.fr x0 x1 x2 x3 x4 x5 x6 (I (s:Int)) x8 (.sl id 0 W.length (some W.length) 1) (I (m:Int)) (.sl qid 0 qn (some qn) 1) x12 x13 x14 x15 x16 x17 x18 x19 x20 x21) h nx=.ok True:=by
 have hp:0<2 ^ s:=Zcw (by omega);have hps:2 ^ s*2 ^ (64-s)=18446744073709551616:=by rw [<- Zcn,show s+(64-s)=64 by omega]
 have hq0:0<2 ^ (64-s):=Zcw (by omega);have hWt:bv 18446744073709551616 W=bv 18446744073709551616 (W.take m)+18446744073709551616 ^ m*bv 18446744073709551616 (W.drop m):=by
  have:=kM 18446744073709551616 (W.take m) (W.drop m)
  rwa [Zdf,Zas,Zbz (by omega)] at this
 have hdz:bv 18446744073709551616 (W.drop m)=0:=by
  rcases Zcc (bv 18446744073709551616 (W.drop m)) with q | q
  ·exact q
  ·have:18446744073709551616 ^ m*1<=18446744073709551616 ^ m*bv 18446744073709551616 (W.drop m):=Zbc _ q;omega
 have hwm:W.getD m 0=0:=by
  have e:=getD_some (l:=W) (k:=m) (by omega);rw [List.getElem?_eq_getElem (by omega)] at e;rw [Zax (by omega),Option.some.inj e,bv] at hdz;omega
 rw [hdz,Zdx,Zcf] at hWt;rw [zn.t66,zA,zA,zn.zzm,zM];refine zn.zzp (fun n x19 h' nx'=>∃ (i:Nat) (Z:List Nat),x19=I (i:Int)/\n+i=m/\Z.length=i/\Dg 18446744073709551616 Z/\2 ^ s*bv 18446744073709551616 Z+W.getD 0 0%2 ^ s=bv 18446744073709551616 (W.take i)+18446744073709551616 ^ i*(W.getD i 0%2 ^ s)/\Hp h0 h' nx' [.arr qid (Q.map U),.arr id ((Z++W.drop i).map U)]) (m:=m) (by omega) ⟨0,[],rfl,rfl,rfl,fun _ h=>by simp at h,by simp [bv],by simpa using H⟩ ?_;rintro n z13 z19 z20 z21 h3 nx3 R' ⟨i,Z,rfl,hn,hZ,hdZ,hv,H3⟩ hR;rw [zn.t60,zA,zn.zzn,ug];by_cases ci:i<m
 case neg =>
  have hi:i=m:=by omega
  subst hi;rw [Zab (by omega),zA,zB,zn.v20,zC,zZ,yH,zA,zn.zni,zwr (by omega) (by omega)];obtain ⟨h5,hkp,H5,hF⟩:=H3.letU (n:=qn) hQ;refine vY hkp (.cons hF .nil) ?_;refine wC hdQ (by omega) (by omega) _ _ _ _ ?_;rintro _ rfl _;rw [zwr (by omega) (by omega)];simp only [zG];obtain ⟨h6,hkp6,H6,hF6⟩:=H5.zyy (n:=i) (m:=W.length) (by simp;omega) (by omega);refine vY hkp6 (.cons hF6 .nil) ?_;rw [List.take_append_of_le_length (by omega),Zad (by omega)];refine wC hdZ (by omega) (by omega) _ _ _ _ ?_;rintro _ rfl _;simp only [zJ,zT];rw [zn.ret];refine hK _ _ _ _ _ H6 (jP (zY (gS _)) (zY (gS _))) ?_;rw [hwm,Nat.zero_mod,Zdx,Zcf,<- hWt,hval] at hv;have ht:=Zbl (W.getD 0 0) hp;have h0:W.getD 0 0%2 ^ s=0:=by
   have:=congrArg (· % 2 ^ s) hv;simp only [Nat.mul_add_mod,Nat.mul_mod_left,Nat.mod_mod] at this;exact this
  rw [h0,Zcf,Zaw] at hv;rw [Nat.eq_of_mul_eq_mul_right hp hv]
 have e0:W.drop i=W.getD i 0::W.drop (i+1):=by
  have ea:=getD_some (l:=W) (k:=i) (by omega);rw [List.getElem?_eq_getElem (by omega)] at ea;rw [Zax (by omega),Option.some.inj ea]
 have e1:W.drop (i+1)=W.getD (i+1) 0::W.drop (i+1+1):=by
  have ea:=getD_some (l:=W) (k:=i+1) (by omega);rw [List.getElem?_eq_getElem (by omega)] at ea;rw [Zax (by omega),Option.some.inj ea]
 have hxW:=jF (k:=i) (by decide) hdW;have hyW:=jF (k:=i+1) (by decide) hdW;have hst:=zma (y:=W.getD (i+1) 0) hv hps;rw [e0] at H3
 generalize hx:W.getD i 0=x at *
 generalize hy:W.getD (i+1) 0=y at *
 have ld:((Z++x::W.drop (i+1)).map U)[i]? = some (U x):=uGet (by rw [List.getElem?_append_right (by omega),show i-Z.length=0 by omega];rfl);have hx2:x / 2 ^ s<2 ^ (64-s):=by rw [Zci hp,Zaw,hps];exact hxW
 have hx3:x / 2 ^ s<=x:=Zcu ..;have hym:y*2 ^ (64-s)%18446744073709551616=y%2 ^ s*2 ^ (64-s):=by rw [<- hps,Zfj]
 have hyl:y%2 ^ s*2 ^ (64-s)+2 ^ (64-s)<=18446744073709551616:=by
  rw [<- hps,<- Zdu];exact Zak _ (Zbl _ hp)
 rw [Zaa (by omega),zA,zB,zn.v20,zD,zF,zA,zM,zA,zn.zzo,zA,zn.zf7,sIx (i:=i) rfl (by omega),H3.load (k:=1) rfl ld,uShr (by omega),sIx (i:=i) rfl (by omega)];refine H3.store (k:=1) rfl (by simp;omega) rfl fun h4 H4 => ?_;simp only [Zeu,Zbq] at H4;rw [Zat,Zbr,gN (by simp;omega)] at H4;rw [zA,zn.zf3,zn.znn,zn.zsj,bf];by_cases cs:0<s
 ·rw [Zaa (by omega)];simp only [yN];rw [jy (by omega),yX,ug,zn.zp8,zn.zjz];simp only [zO];have l1:(Z.map U++U (x / 2 ^ s)::(W.drop (i+1)).map U)[i]? = some (U (x / 2 ^ s)):=by
   rw [List.getElem?_append_right (by simp;omega),Zaz,show i-Z.length=0 by omega];rfl
  have l2:(Z.map U++U (x / 2 ^ s)::(W.drop (i+1)).map U)[i+1]? = some (U y):=by
   rw [List.getElem?_append_right (by simp;omega),Zaz,show i+1-Z.length=1 by omega,e1];rfl
  rw [Zaa (by omega),zB,zn.v21,zD,zn.zf4,zn.za9,zn.zek,sIx (i:=i) rfl (by omega),H4.load (k:=1) rfl l1,jy (by omega),sIx (i:=i+1) (by omega) (by omega),zn.zco,zn.zaa,H4.load (k:=1) rfl l2,xw (by omega),show (64:Int)-(s:Int)=((64-s:Nat):Int) by omega,uShl (by omega),uOr (c:=x / 2 ^ s+y%2 ^ s*2 ^ (64-s)) (by omega) (by omega) (by rw [hym];exact zja hx2),sIx (i:=i) rfl (by omega)];refine H4.store (k:=1) rfl (by simp;omega) rfl fun h5 H5 => ?_;simp only [Zeu,Zbq] at H5;rw [gN (by simp;omega)] at H5;rw [zn.zjx,jy (by omega)];refine hR (n-1) _ _ _ _ _ _ (by omega) ⟨i+1,Z++[x / 2 ^ s+y%2 ^ s*2 ^ (64-s)],by congr 1,by omega,by simp;omega,hdZ.append (Dg.one (by omega)),?_,?_⟩
  ·rw [gG,hZ,yA,hx,hy,Zbh];exact hst
  ·simpa using H5
 ·have s0:s=0:=by omega
  subst s0;rw [Zab (by omega)];simp only [yM];rw [zn.zp8,zn.zjz];simp only [zQ];rw [zB,zn.v21,zC,zF,zn.zjx,jy (by omega)];have hz:x / 2 ^ 0+y%2 ^ 0*2 ^ (64-0)=x / 2 ^ 0:=by rw [Nat.pow_zero,Nat.mod_one,Zec,Zcf]
  rw [hz] at hst;refine hR (n-1) _ _ _ _ _ _ (by omega) ⟨i+1,Z++[x / 2 ^ 0],by congr 1,by omega,by simp;omega,hdZ.append (Dg.one (by omega)),?_,?_⟩
  ·rw [gG,hZ,yA,hx,hy,Zbh];exact hst
  ·simpa using H4
theorem zt4 {id:Pa} {n i j:Nat} {op:AV->OP} (hij:i<=j) (hj:j<=n) (hn:i<n):kZ 1 (.sl id 0 n (some n) 1) (some (I (i:Int))) (some (I (j:Int))) none op=op (.sl id i (j-i) (some (n-i)) 1):=by
 have e:kZ 1 (.sl id 0 n (some n) 1) (some (I (i:Int))) (some (I (j:Int))) none op=(match bnd (some (I (j:Int))) n n with
  | none=>Out.no 17
  | some h=>match bnd (some (I (i:Int))) h 0 with
   | none=>Out.no 17
   | some q=>bif Nat.beq n q then op (.sl id 0 (h-q) (some 0) 1) else vw (0+q*1) fun off=>vw (h-q) fun h=>vw (n-q) fun m=>op (.sl id off h (some m) 1)):=rfl
 rw [e,zcj hj]
 dsimp only
 rw [zcj hij]
 dsimp only
 have hb:Nat.beq n i=false:=by
  cases q:Nat.beq n i with
  | false=>rfl
  | true=>have:=Zfh q;omega
 rw [hb,cond_false];simp only [yR,Zca,Zbe]
theorem zq9 {P b A W0 V Q X:Nat} (h:X=(A+P*W0)+P*b*Q*V):X=(A+P*(W0%V))+P*(W0 / V+b*Q)*V:=by
 have k:=Zct W0 V;have e:=congrArg (P * ·) k;simp only [Zba] at e;have e1:P*(W0 / V+b*Q)*V=P*(V*(W0 / V))+P*b*Q*V:=by
  rw [Zba,Zam,Zbb P (W0 / V) V,Zaw (W0 / V) V,<- Zbb P b Q]
 omega
theorem zcy {b:Nat} {l:List Nat} {k:Nat} (h:k<=l.length):bv b l=bv b (l.take k)+b ^ k*bv b (l.drop k):=by
 have:=kM b (l.take k) (l.drop k)
 rwa [Zdf,Zas,Zbz h] at this
theorem zra {b:Nat} {l:List Nat} {k:Nat} (h:k<=l.length) (hv:bv b l<b ^ k):bv b (l.drop k)=0/\bv b (l.take k)=bv b l:=by
 have e:=zcy (b:=b) h;rcases Zcc (bv b (l.drop k)) with q | q
 ·rw [q,Zdx,Zcf] at e;exact ⟨q,e.symm⟩
 ·have:b ^ k*1<=b ^ k*bv b (l.drop k):=Zbc _ q;omega
theorem zt5 {a d:Nat} {h:T Blk} {nx:Pa} {K:Kw Prop} {Kq:Ks Prop} {x2 x3 x4 x5 x6 x7 x8 x9 x10 x11 x12 x13 x14 x15 x16 x17 x18 x19 x20 x21:AV} (H0:Hp h h nx []) (hd:1<=d) (ha:(dg 18446744073709551616 a).length<=100000) (hds:(dg 18446744073709551616 d).length<=100000) (hn2:2<=(dg 18446744073709551616 d).length) (hla:(dg 18446744073709551616 d).length<=(dg 18446744073709551616 a).length) (hda:d<=a)
  (hK:∀ v h' nx' L v',Hp h h' nx' L->sU h h' v v'->v'=.tup [uw (dg 18446744073709551616 (a / d)),uw (dg 18446744073709551616 (a%d))]->K v h' nx'=.ok True) :
  IR.run zn.t72 (CS Tryz.prog B) 1000010 (fnO zn.res K) Kq (zn.fr (uw (dg 18446744073709551616 a)) (uw (dg 18446744073709551616 d)) x2 x3 x4 x5 x6 x7 x8 x9 x10 x11 x12 x13 x14 x15 x16 x17 x18 x19 x20 x21) h nx=.ok True:=by
 have oa:=kF (b:=18446744073709551616) (by decide) a;have od:=kF (b:=18446744073709551616) (by decide) d;obtain ⟨m,hm⟩:∃ m,(dg 18446744073709551616 d).length=m+1:=⟨(dg 18446744073709551616 d).length-1,by omega⟩;have htop:=getD_some (l:=dg 18446744073709551616 d) (k:=m) (by omega);have htW:=jF (k:=m) (by decide) od.2.1;have ht1:1<=(dg 18446744073709551616 d).getD m 0:=by
  have:=od.2.2;unfold Nm at this;rw [List.getLast?_eq_getElem?,hm,Nat.add_sub_cancel,htop] at this;rcases Zcc ((dg 18446744073709551616 d).getD m 0) with q | q
  ·rw [q] at this;exact absurd rfl this
  ·exact q
 have hdm:bv 18446744073709551616 ((dg 18446744073709551616 d).take m)+18446744073709551616 ^ m*(dg 18446744073709551616 d).getD m 0=d:=by
  rw [<- yA,Zad (by omega),od.1]
 have l1:=q9 (b:=18446744073709551616) (m:=m) (by decide) od.2.1 (by omega);rw [zn.t72,zA,zn.aA,fU,xw (by omega),uIx (i:=m) (by omega) (by omega),uLd htop];refine zkr ht1 htW _ _ _ _ ?_;rintro _ ⟨s,rfl,hs,hts,hts2⟩ _
 generalize (dg 18446744073709551616 d).getD m 0=top at *
 have hp:0<2 ^ s:=Zcw (by omega);have hps:2 ^ s*2 ^ (64-s)=18446744073709551616:=by rw [<- Zcn,show s+(64-s)=64 by omega]
 have hpw:18446744073709551616 ^ (m+1)=18446744073709551616 ^ m*18446744073709551616:=Zbh ..;have hPm:0<18446744073709551616 ^ m:=Zcw (by decide);have hVlt:d*2 ^ s<18446744073709551616 ^ (m+1):=by
  have b1:top<2 ^ (64-s):=by
   refine Nat.lt_of_mul_lt_mul_right (a:=2 ^ s) ?_;rw [Zaw (2 ^ (64-s)),hps];exact hts
  have b2:(top+1)*2 ^ s<=2 ^ (64-s)*2 ^ s:=Zak _ b1;rw [Zaw (2 ^ (64-s)),hps] at b2;have b3:d<18446744073709551616 ^ m*(top+1):=by rw [Zba,Zca];omega
  have b4:d*2 ^ s<18446744073709551616 ^ m*(top+1)*2 ^ s:=Zef b3 hp;have b5:18446744073709551616 ^ m*((top+1)*2 ^ s)<=18446744073709551616 ^ m*18446744073709551616:=Zbc _ b2;rw [Zbb] at b4;omega
 have hdge:18446744073709551616 ^ m<=d:=by
  have:18446744073709551616 ^ m*1<=18446744073709551616 ^ m*top:=Zbc _ ht1;omega
 have hVge:18446744073709551616 ^ m*2 ^ s<=d*2 ^ s:=Zak _ hdge;have qbx:18446744073709551616 ^ m<=d*2 ^ s:=by
  have:18446744073709551616 ^ m*1<=18446744073709551616 ^ m*2 ^ s:=Zbc _ hp;omega
 have oV:=kF (b:=18446744073709551616) (by decide) (d*2 ^ s);have hvl:(dg 18446744073709551616 (d*2 ^ s)).length=m+1:=by
  have c1:=mV (b:=18446744073709551616) (by decide) hVlt;have c2:=zl7 (b:=18446744073709551616) (by decide) qbx;omega
 have haW:a<18446744073709551616 ^ (dg 18446744073709551616 a).length:=by
  have:=vI (b:=18446744073709551616) (by decide) oa.2.1
  rwa [oa.1] at this
 rw [zA,zn.zft];refine zhi (L:=[]) H0 od.2.1 hds hs fun vid Z h1 nx1 g1 g2 g3 H1 => ?_;obtain ⟨h2,hkp,H2,hF⟩:=H1.letU (n:=(dg 18446744073709551616 d).length+1) g1;refine vY hkp (.cons hF .nil) ?_;refine wC g2 (by omega) (by omega) _ _ _ _ ?_;rintro _ rfl _;rw [g3,od.1,zA,zn.znl];refine zhi (L:=[]) H2 oa.2.1 ha hs fun uid Z2 h3 nx3 f1 f2 f3 H3 => ?_;rw [oa.1] at f3;have qby:1<=(dg 18446744073709551616 (d*2 ^ s)).getD ((dg 18446744073709551616 (d*2 ^ s)).length-1) 0:=by
  have:=oV.2.2;unfold Nm at this;rw [List.getLast?_eq_getElem?,getD_some (l:=dg 18446744073709551616 (d*2 ^ s)) (by omega)] at this;rcases Zcc ((dg 18446744073709551616 (d*2 ^ s)).getD ((dg 18446744073709551616 (d*2 ^ s)).length-1) 0) with q | q
  ·rw [q] at this;exact absurd rfl this
  ·exact q
 have zwt:0<d*2 ^ s:=Nat.mul_pos hd hp;have fin:∀ Q R:Nat,a*2 ^ s=R+Q*(d*2 ^ s)->R<d*2 ^ s->Q=a / d/\R=a%d*2 ^ s:=fun Q R e hR=>by
  obtain ⟨c1,c2⟩:=zcs (U:=a*2 ^ s) (V:=d*2 ^ s) (q:=Q) (r:=R) (by omega) hR;rw [Zfi _ _ hp] at c1;rw [Zfj] at c2;exact ⟨c1.symm,c2.symm⟩
 rw [zA,zn.zfv,fU,hvl,zA,zn.zm9,fU,xw (by omega),jy (by omega)]
 generalize hLa:(dg 18446744073709551616 a).length=la at *
 obtain ⟨qn,hqn⟩:∃ qn,la=m+qn:=⟨la-m,by omega⟩;refine sMk1 (n:=qn) H3 (by omega) (by omega) fun qid h4 nx4 H4 => ?_;rw [zA,zA,zn.zdf,fU,hLa,xw (by omega),zM];refine zn.zzl (fun k x12 h' nx'=>∃ Q Ul:List Nat,x12=I ((k:Int)-1)/\k<=qn/\Q.length=qn-k/\Dg 18446744073709551616 Q/\Ul.length=la+1/\Dg 18446744073709551616 Ul/\a*2 ^ s=bv 18446744073709551616 Ul+18446744073709551616 ^ k*bv 18446744073709551616 Q*(d*2 ^ s)/\bv 18446744073709551616 (Ul.drop k)<d*2 ^ s/\Hp h h' nx' [.arr qid ((List.replicate k 0++Q).map U),.arr uid (Ul.map U)]) (m:=qn) (by omega) ⟨[],Z2,by congr 1;omega,Zah _,by simp,fun _ h=>by simp at h,f1,f2,by simp [bv,f3],?_,by simpa using H4⟩ ?_
 ·have e:=zcy (b:=18446744073709551616) (l:=Z2) (k:=qn) (by omega);rw [f3] at e;rcases Zdw (bv 18446744073709551616 (Z2.drop qn)) (d*2 ^ s) with q | q
  ·exact q
  ·exfalso
   have c1:18446744073709551616 ^ qn*(d*2 ^ s)<=18446744073709551616 ^ qn*bv 18446744073709551616 (Z2.drop qn):=Zbc _ q;have c2:18446744073709551616 ^ qn*(18446744073709551616 ^ m*2 ^ s)<=18446744073709551616 ^ qn*(d*2 ^ s):=Zbc _ hVge;have c3:a*2 ^ s<18446744073709551616 ^ la*2 ^ s:=Zef haW hp;rw [hqn,Zcs m qn,Zcn,Zbb] at c3;omega
 rintro k z12 z17 h5 nx5 R ⟨Q,Ul,rfl,hk,hQ,hdQ,hUl,hdU,hval,hlt,H5⟩ hR;rw [zn.t41,zA,zA,zn.zam,pz];cases k with
 | zero =>
  rw [Zab (by omega),zB,zn.v17,zC,zZ,yH];simp only [Zem,Zco] at H5;rw [Nat.pow_zero,Zbx] at hval;rw [Zdt] at hlt;obtain ⟨c1,c2⟩:=fin _ _ hval hlt;have:=zt3 (B:=B) (W:=Ul) (v:=[]) (V:=0) (R:=a%d) (m:=m+1) (qn:=qn) (K:=K) (Kq:=Kq) (N:=1000010) (x0:=uw (dg 18446744073709551616 a)) (x1:=uw (dg 18446744073709551616 d)) (x2:=x2) (x3:=x3) (x4:=x4) (x5:=x5) (x6:=x6) (x8:=uw (dg 18446744073709551616 (d*2 ^ s))) (x12:=I ((0:Nat)-1)) (x13:=x13) (x14:=x14) (x15:=x15) (x16:=x16) (x17:=.bool false) (x18:=x18) (x19:=x19) (x20:=x20) (x21:=x21) H5 (Zah _) (by omega) (by omega) (by omega) hdQ hdU (by omega) (by omega) (by omega) hs c2 (by omega) fun v h' nx' L v' e1 e2 e3=>hK v h' nx' L v' e1 e2 (by rw [e3,c1]);rw [hUl] at this;exact this
 | succ k =>
  have hX:k+m+2<=la+1:=by omega
  have eW:((Ul.drop k).take (m+2)).length=m+2:=by rw [Zas,Zde];omega
  have eA:(Ul.take k).length=k:=by rw [Zas];omega
  have eU:Ul=Ul.take k++((Ul.drop k).take (m+2)++Ul.drop (k+(m+2))):=by
   rw [<- Zfp,Zdf,Zdf]
  have e0:Ul.drop k=Ul.getD k 0::Ul.drop (k+1):=by
   have ea:=getD_some (l:=Ul) (k:=k) (by omega);rw [List.getElem?_eq_getElem (by omega)] at ea;rw [Zax (by omega),Option.some.inj ea]
  have hu0:=jF (k:=k) (by decide) hdU;have hdd:Dg 18446744073709551616 (Ul.drop k):=fun x hx=>hdU x (List.mem_of_mem_drop hx);have hwin:bv 18446744073709551616 (Ul.drop k)=Ul.getD k 0+18446744073709551616*bv 18446744073709551616 (Ul.drop (k+1)):=by rw [e0,bv]
  have hwlt:bv 18446744073709551616 (Ul.drop k)<18446744073709551616*(d*2 ^ s):=by
   have:18446744073709551616*(bv 18446744073709551616 (Ul.drop (k+1))+1)<=18446744073709551616*(d*2 ^ s):=Zbc _ hlt;rw [Zba,Zca] at this;omega
  have hwp:bv 18446744073709551616 (Ul.drop k)<18446744073709551616 ^ (m+2):=by
   have:18446744073709551616*(d*2 ^ s)<=18446744073709551616*18446744073709551616 ^ (m+1):=Zbc _ (by omega);rw [show m+2=m+1+1 from rfl,Zbh,Zaw (18446744073709551616 ^ (m+1))];omega
  obtain ⟨z1,z2⟩:=zra (b:=18446744073709551616) (l:=Ul.drop k) (k:=m+2) (by rw [Zde];omega) hwp;rw [Zfp] at z1;rw [eU] at H5;have H6:=H5.perm (.swap _ _ _);rw [Zaa (by omega),zB,zn.v17,zD,zF,zA,zM,zn.zfx,zn.za6,zn.zej,show ((k+1:Nat):Int)-1=(k:Int) by omega,jy (by omega),jy (by omega),zn.zdz,zn.zay,show (k:Int)+((m+1:Nat):Int)+1=((k+(m+2):Nat):Int) by omega,zt4 (by omega) (by omega) (by omega),Zcr];have hst:=fun KK:Kw Prop=>zt1 (B:=B) (K:=KK) (p0:=.of 254) (A:=Ul.take k) (W:=(Ul.drop k).take (m+2)) (C:=Ul.drop (k+(m+2))) (v:=dg 18446744073709551616 (d*2 ^ s)) (cap:=some (la+1-k)) H6 (by omega) (by omega) hdd.take oV.2.1 (by omega) qby (by rw [z2,oV.1];exact hwlt);rw [eA,hvl] at hst;refine hst _ fun Y h6 nx6 y1 y2 y3 H7 => ?_;rw [oV.1,z2] at y3 ⊢;have H8:=H7.perm (.swap _ _ _);have hdig:bv 18446744073709551616 (Ul.drop k) / (d*2 ^ s)<18446744073709551616:=by rw [Zci zwt];exact hwlt
  rw [zhj] at H8;rw [zn.zv1,zn.zsi,sIx (i:=k) rfl (by omega)];refine H8.store (k:=0) rfl (by simp) rfl fun h7 H9 => ?_;simp only [Zbq] at H9;rw [Zat,Zbr,gN (by simp)] at H9;rw [zn.zfz,xw (by omega)];refine hR k _ _ _ _ (by omega) ⟨bv 18446744073709551616 (Ul.drop k) / (d*2 ^ s)::Q,Ul.take k++(Y++Ul.drop (k+(m+2))),rfl,by omega,by simp;omega,(Dg.one hdig).append hdQ,by simp;omega,hdU.take.append (y2.append fun x hx=>hdU x (List.mem_of_mem_drop hx)),?_,?_,by simpa using H9⟩
  ·rw [kM,kM,z1,Zdx,Zcf,eA,y3,bv];refine zq9 ?_;rw [hval,zcy (b:=18446744073709551616) (l:=Ul) (k:=k) (by omega),Zbh]
  ·rw [List.drop_append_of_le_length (by omega),Zby (by omega),Zco,kM,z1,Zdx,Zcf,y3];exact Zbl _ zwt
theorem zmb {a d:Nat} (hd:1<=d) (ha:Sz a) (hds:Sz d):Pure Tryz.prog B 250 [uw (dg 18446744073709551616 a),uw (dg 18446744073709551616 d)] (· = .tup [uw (dg 18446744073709551616 (a / d)),uw (dg 18446744073709551616 (a%d))]):=by
 refine yB fun h nx K H0 hK=>zP zS jA 1000010 fun hf => ?_;have oa:=kF (b:=18446744073709551616) (by decide) a;have od:=kF (b:=18446744073709551616) (by decide) d;have hN:1000010<=1000010:=Zah _;unfold Sz at ha hds;rw [zn.go,zn.t75,zA,zn.jm,zA,zA,zn.jl];refine zq4 ha hds _ _ _ _ ?_;rintro _ rfl _;rw [ug,zB,zn.v14];by_cases c:a<d
 ·rw [Zaa (by rw [cmpN,if_pos c];decide),zD,zA,zn.qh];simp only [zJ,zT];rw [zn.ret];refine hK _ _ _ _ _ H0 (jP (.zgx 1) (zY (gS _))) ?_;rw [Zeh c,Zao c,kE];rfl
 rw [Zab (by rw [cmpN,if_neg c];split <;> decide),zC,zF,zA,zA,zn.mg,fU,ve,zB,zn.v15];have hla:(dg 18446744073709551616 d).length<=(dg 18446744073709551616 a).length:=by
  rcases Zdw (dg 18446744073709551616 a).length (dg 18446744073709551616 d).length with q | q
  ·have:=wI (b:=18446744073709551616) (by decide) q;omega
  ·exact q
 have hld1:1<=(dg 18446744073709551616 d).length:=by rw [wO (by decide) (by omega)];simp
 by_cases c1:(dg 18446744073709551616 d).length=1
 ·rw [Zaa (by omega),zD];have e1:dg 18446744073709551616 d=[d]:=by
   cases hdd:dg 18446744073709551616 d with
   | nil=>rw [hdd] at c1;cases c1
   | cons x l =>
    rw [hdd] at c1;have:l=[]:=by cases l with
     | nil=>rfl
     | cons y l=>simp at c1
    subst this;have:=od.1;rw [hdd] at this;simp [bv] at this;rw [this]
  have hdW:d<18446744073709551616:=by
   have:=od.2.1 d (by rw [e1];simp);exact this
  rw [e1];refine zyz H0 hN hd hdW oa.2.1 (by omega) ha fun v h' nx' L v' g1 g2 g3=>hK v h' nx' L v' g1 g2 ?_;rw [g3,oa.1]
 rw [Zab (by omega),zC,zF];exact zt5 H0 hd ha hds (by omega) hla (by omega) hK
def fJ (s w:AV) (z:Int):Prop :=
 (s=I z/\w=.zf /\ -9223372036854775808<=z/\z<=9223372036854775807) \/
 (∃ n:Int,s=I n/\w=uw (dg 18446744073709551616 z.natAbs)/\((z<0/\n = -1)\/(0<z/\n=1))/\9223372036854775808<=z.natAbs)
def bP (v:AV) (z:Int):Prop:=∃ s w,v=.agg [s,w]/\fJ s w z
theorem sD {N:Pa->Prop} {O:AV->Prop} {hh:T Blk} {l:List AV} (h:∀ v∈l,fP v=true):Frz True N O hh (.agg l) (.agg l) :=
 .agg _ _ rfl (List.all_eq_true.2 fun v hv=>fP.uz (h v hv)) fun i v v' h1 h2=>by rw [h1] at h2;cases h2;exact zY (h v (Zae h1))
theorem fJ.fix {s w:AV} {z:Int} (h:fJ s w z):∀ v∈[s,w],fP v=true:=by
 intro v hv;simp only [Zap,List.not_mem_nil,or_false] at hv;rcases h with ⟨rfl,rfl,_⟩ | ⟨n,rfl,rfl,_⟩
 ·rcases hv with rfl | rfl <;> rfl
 ·rcases hv with rfl | rfl
  ·rfl
  ·exact gS _
theorem bP.frz {v:AV} {z:Int} (h:bP v z) {N:Pa->Prop} {O:AV->Prop} {hh:T Blk}:Frz True N O hh v v:=by
 obtain ⟨s,w,rfl,h⟩:=h;exact sD h.fix
theorem jE {z:Int} (h : -9223372036854775808<=z/\z<=9223372036854775807):bP (.agg [I z,.zf]) z:=⟨_,_,rfl,.inl ⟨rfl,rfl,h.1,h.2⟩⟩
theorem zjb {n:Nat} (h:n≠0) (h2:n<18446744073709551616):dg 18446744073709551616 n=[n]:=by
 rw [wO (by decide) h,Zeh h2,kE,Zao h2]
theorem zt6 {n:Nat} (h:(dg 18446744073709551616 n).length=1):n≠0/\n<18446744073709551616/\dg 18446744073709551616 n=[n]:=by
 have h0:n≠0:=by rintro rfl;rw [kE] at h;simp at h
 have h1:n<18446744073709551616:=by
  have:=vI (b:=18446744073709551616) (by decide) (kF (b:=18446744073709551616) (by decide) n).2.1;rw [(kF (b:=18446744073709551616) (by decide) n).1,h] at this;simpa using this
 exact ⟨h0,h1,zjb h0 h1⟩
theorem zcz {n:Nat} (h:n≠0):1<=(dg 18446744073709551616 n).length:=by rw [wO (by decide) h];simp
theorem zfj {K:AV->OP}:zi .eql (.nil .sl) .zf .zf K=K (.bool true):=nr rfl
theorem zy0 {K:AV->OP}:zi .neq (.nil .sl) .zf .zf K=K (.bool false):=nr rfl
theorem zkv {l:List Nat} (h:1<=l.length):gA .sl (uw l)=some false:=by
 show (bif Nat.ble 1 l.length then some false else none)=_;rw [Zaf h];rfl
theorem zy1 {l:List Nat} {K:AV->OP} (h:1<=l.length):zi .neq (.nil .sl) (uw l) .zf K=K (.bool true):=by
 have e2:zi .neq (.nil .sl) (uw l) .zf K=(match gA .sl (uw l),gA .sl .zf with
  | some b,some true=>vT .neq b K
  | _,_=>.no 5):=nr rfl
 rw [e2,zkv h];rfl
theorem zjc {l:List Nat} {K:AV->OP} (h:1<=l.length):zi .eql (.nil .sl) (uw l) .zf K=K (.bool false):=by
 have e2:zi .eql (.nil .sl) (uw l) .zf K=(match gA .sl (uw l),gA .sl .zf with
  | some b,some true=>vT .eql b K
  | _,_=>.no 5):=nr rfl
 rw [e2,zkv h];rfl
theorem bEql {a b:Bool} {K:AV->OP}:zi .eql .bool (.bool a) (.bool b) K=K (.bool (a==b)):=by cases a <;> cases b <;> exact nr rfl
theorem bNeq {a b:Bool} {K:AV->OP}:zi .neq .bool (.bool a) (.bool b) K=K (.bool (a != b)):=by cases a <;> cases b <;> exact nr rfl
theorem zt7 {K:AV->OP}:gC [(I 0),.zf] [] K=K (.agg [I 0,.zf]):=nr rfl
theorem kB {z:Int} {K:AV->OP}:gC [(I 0),.zf] [(0,1,I z)] K=K (.agg [I z,.zf]):=nr rfl
theorem bA {z:Int} {l:List Nat} {K:AV->OP}:gC [(I 0),.zf] [(0,1,I z),(1,1,uw l)] K=K (.agg [I z,uw l]):=nr rfl
def Zs (k:Nat) (z:Int):Prop:=z.natAbs<18446744073709551616 ^ k
theorem Zs.len {k:Nat} {z:Int} (h:Zs k z):(dg 18446744073709551616 z.natAbs).length<=k:=mV (by decide) h
theorem qS {v:AV} {z:Int} (hv:bP v z):Pure Tryz.prog B 249 [v] (· = .tup [.bool (decide (z<0)),uw (dg 18446744073709551616 z.natAbs)]):=by
 obtain ⟨s,w,rfl,hv⟩:=hv;refine yB fun h nx K H0 hK=>zP zS jA 100 fun hf => ?_;rw [uq.go,uq.t15,zA,uq.jm];refine H0.box (l:=[s,w]) rfl fun pa h1 nx1 H1 => ?_;rcases hv with ⟨rfl,rfl,h1,h2⟩ | ⟨s,rfl,rfl,hs,hb⟩
 ·rw [zA,zM,zA,uq.jl,sFx,H1.load (k:=0) (i:=0+1) rfl rfl,zy0,zB,uq.v4,zC,zA,uq.rD,sFx,H1.load (k:=0) (i:=0+0) rfl rfl,ve,zB,uq.v5];by_cases c:z=0
  ·rw [Zaa c,zD,zA,uq.bJ];simp only [zJ,uA,zT];rw [uq.ret];refine hK _ _ _ _ _ H1 (jP (zY rfl) (.zgx 1)) ?_;subst c;rw [Int.natAbs_zero,kE];rfl
  rw [Zab c,zC,zF];have hd:dg 18446744073709551616 z.natAbs=[z.natAbs]:=zjb (by omega) (by omega);rw [zA,uq.ng,sFx,H1.load (k:=0) (i:=0+0) rfl rfl,ug,sFx,H1.load (k:=0) (i:=0+0) rfl rfl];refine zfh (by omega) _ _ _ _ ?_;rintro _ rfl _;simp only [ug,zG,sFx,H1.load (k:=0) (i:=0+0) rfl rfl];refine H1.yu (l:=[U z.natAbs]) rfl fun tb h2 nx2 H2 => ?_;simp only [ug,zG,sFx,H2.load (k:=1) (i:=0+0) rfl rfl];simp only [zJ,uA,zT];rw [uq.ret];refine hK _ _ _ _ _ H2 (jP (zY rfl) (H2.ziu (k:=0) (cap:=some 1) (n:=1) (e:=1) rfl (Zah _) rfl (fun v hv=>by rw [List.mem_singleton.1 hv];rfl))) ?_;rw [hd];rfl
 ·have hl:1<=(dg 18446744073709551616 z.natAbs).length:=zcz (by omega);rw [zA,zM,zA,uq.jl,sFx,H1.load (k:=0) (i:=0+1) rfl rfl,zy1 hl,zB,uq.v4,zD,zA,uq.qh,sFx,H1.load (k:=0) (i:=0+0) rfl rfl,ug,sFx,H1.load (k:=0) (i:=0+1) rfl rfl];simp only [zJ,uA,zT];rw [uq.ret];refine hK _ _ _ _ _ H1 (jP (zY rfl) (zY (gS _))) ?_;rcases hs with ⟨a,rfl⟩ | ⟨a,rfl⟩
  ·rw [Zaa (by omega),Zaa a]
  ·rw [Zab (by omega),Zab (by omega)]
theorem xV {b:Bool} {m:Nat}:Pure Tryz.prog B 257 [.bool b,uw (dg 18446744073709551616 m)] (fun v=>bP v (if b then -(m:Int) else m)):=by
 refine yB fun h nx K H0 hK=>zP zS jA 100 fun hf => ?_;have ret:∀ {h1 nx1 p l s w},Hp h h1 nx1 [.arr p l]->l.length=2->fJ s w (if b then -(m:Int) else m)->∀ {x0 x1 x3 x4 x5 x6:AV},(zW 2 (.ptr p 0) (.agg [s,w]) h1 nx1 fun v2 h3 n4=>yx yw.res K (yw.fr x0 x1 (.ptr p 0) x3 x4 x5 x6) h3 n4)=.ok True:=fun H hl hc=>by
  refine H.jg (l2:=[_,_]) (k:=0) rfl hl rfl fun h4 H4 => ?_;rw [yw.ret,H4.zk (k:=0) (n:=2) rfl rfl];exact hK _ _ _ _ _ H4 (sD hc.fix) ⟨_,_,rfl,hc⟩
 rw [yw.go,yw.t25,zA,yw.jm];refine H0.alloc fun p h1 nx1 H1 => ?_;rw [zA,zM,zA,yw.jl,fU,ve,zB,yw.v3];by_cases c0:m=0
 ·subst c0;rw [Zaa (by rw [kE];rfl),zD,zA,yw.qh,zt7];simp only [zJ,uA,zT];exact ret H1 rfl (.inl ⟨by cases b <;> rfl,rfl,by cases b <;> simp,by cases b <;> simp⟩)
 have hl:=zcz c0;rw [Zab (by omega),zC,zA,yw.rD,yw.r3_0,yw.zw9,fU,ve];by_cases c1:(dg 18446744073709551616 m).length=1
 ·obtain ⟨_,hmW,hd1⟩:=zt6 c1;rw [hd1];rw [Zaa (by simp)];simp only [yN];rw [uIx (l:=[m]) (j:=0) (i:=0) rfl (by simp),uLd (x:=m) rfl,show (AV.int .u64 9223372036854775807)=U 9223372036854775807 from rfl,uLeq,yw.r3_1,yw.znq,zO];by_cases c2:m<=9223372036854775807
  ·rw [Zaa c2];simp only [yN,zO];rw [zB,yw.v4];cases b with
   | true =>
    rw [zD,zA,yw.bJ,uIx (l:=[m]) (j:=0) (i:=0) rfl (by simp),uLd (x:=m) rfl,zct (by omega),uNeg (by omega),kB];simp only [zJ,uA,zT];exact ret H1 rfl (.inl ⟨by rw [if_pos rfl],rfl,by rw [if_pos rfl];omega,by rw [if_pos rfl];omega⟩)
   | false =>
    rw [zC,zA,yw.rq,yw.r5_0,yw.za1,fU,ve,Zaa (by simp)];simp only [yN];rw [uIx (l:=[m]) (j:=0) (i:=0) rfl (by simp),uLd (x:=m) rfl,show (AV.int .u64 9223372036854775807)=U 9223372036854775807 from rfl,uLeq,yw.r5_1,yw.za2,zO,Zaa c2,zB,yw.v5,zD,zA,yw.sH,uIx (l:=[m]) (j:=0) (i:=0) rfl (by simp),uLd (x:=m) rfl,zct (by omega),kB];simp only [zJ,uA,zT];exact ret H1 rfl (.inl ⟨rfl,rfl,by show (-9223372036854775808:Int)<=(m:Int);omega,by show (m:Int)<=9223372036854775807;omega⟩)
  ·rw [Zab c2];simp only [yM,zQ];rw [zB,yw.v4,zC,zA,yw.rq,yw.r5_0,yw.za1,fU,ve];rw [Zaa (by simp)];simp only [yN];rw [uIx (l:=[m]) (j:=0) (i:=0) rfl (by simp),uLd (x:=m) rfl,show (AV.int .u64 9223372036854775807)=U 9223372036854775807 from rfl,uLeq,yw.r5_1,yw.za2,zO,Zab c2];rw [zB,yw.v5,zC,zA,yw.rG,zB,yw.v6];cases b with
   | true =>
    rw [zD,zA,yw.fZ,bA];simp only [zJ,uA,zT];exact ret H1 rfl (.inr ⟨-1,rfl,by rw [if_pos rfl,Zcy];exact congrArg uw hd1.symm,.inl ⟨by rw [if_pos rfl];omega,rfl⟩,by rw [if_pos rfl];omega⟩)
   | false =>
    rw [zC,zF,zA,yw.aZ,bA];simp only [zJ,uA,zT];exact ret H1 rfl (.inr ⟨1,rfl,congrArg uw hd1.symm,.inr ⟨by show (0:Int)<(m:Int);omega,rfl⟩,by show 9223372036854775808<=(m:Int).natAbs;omega⟩)
 ·rw [Zab (by omega)];simp only [yM];rw [yw.r3_1,yw.znq];simp only [zQ,yM];have hmb:9223372036854775808<=m:=by
   rcases Zdw m 18446744073709551616 with q | q
   ·exact absurd (by rw [zjb c0 q];rfl) c1
   ·omega
  rw [zB,yw.v4,zC,zA,yw.rq,yw.r5_0,yw.za1,fU,ve];rw [Zab (by omega)];simp only [yM];rw [yw.r5_1,yw.za2];simp only [zQ];rw [zB,yw.v5,zC,zA,yw.rG,zB,yw.v6];cases b with
  | true =>
   rw [zD,zA,yw.fZ,bA];simp only [zJ,uA,zT];exact ret H1 rfl (.inr ⟨-1,rfl,by rw [if_pos rfl,Zcy];rfl,.inl ⟨by rw [if_pos rfl];omega,rfl⟩,by rw [if_pos rfl];omega⟩)
  | false =>
   rw [zC,zF,zA,yw.aZ,bA];simp only [zJ,uA,zT];exact ret H1 rfl (.inr ⟨1,rfl,rfl,.inr ⟨by show (0:Int)<(m:Int);omega,rfl⟩,by show 9223372036854775808<=(m:Int).natAbs;omega⟩)
theorem of85 {z:Int} (h : -9223372036854775808<=z/\z<=9223372036854775807):Pure Tryz.prog B 187 [I z] (fun v=>bP v z):=by
 refine yB fun hh nx K H0 hK=>zP zS jA 100 fun hf => ?_;rw [bT.go,bT.t3,zA,bT.jm];refine H0.alloc fun p h1 nx1 H1 => ?_;rw [zA,bT.jl,kB];refine H1.jg (l2:=[I z,.zf]) (k:=0) rfl rfl rfl fun h4 H4 => ?_;simp only [zJ,zT];rw [bT.ret,H4.zk (k:=0) (n:=2) rfl rfl];exact hK _ _ _ _ _ H4 (jE h).frz (jE h)
def tK (z:Int):Int:=if z<0 then -1 else if 0<z then 1 else 0
theorem qbz {z:Int} {K:AV->OP}:sMin false (I 1) [I z] K=K (I (if z<1 then z else 1)):=by
 have e:sMin false (I 1) [I z] K=K (I (bif ilt z 1 then z else 1)):=nr rfl;rw [e,xW];by_cases c:z<1
 ·rw [if_pos c,Zaa c];rfl
 ·rw [if_neg c,Zab c];rfl
theorem qb3 {z:Int} {K:AV->OP}:sMin true (I (-1)) [I z] K=K (I (if -1<z then z else -1)):=by
 have e:sMin true (I (-1)) [I z] K=K (I (bif ilt (-1) z then z else -1)):=nr rfl;rw [e,xW];by_cases c : -1<z
 ·rw [if_pos c,Zaa c];rfl
 ·rw [if_neg c,Zab c];rfl
theorem dA {v:AV} {z:Int} (hv:bP v z):Pure Tryz.prog B 194 [v] (· = I (tK z)):=by
 obtain ⟨s,w,rfl,hv⟩:=hv;refine yB fun h nx K H0 hK=>zP zS jA 100 fun hf => ?_;rw [bU.go,bU.t3,zA,bU.jm];refine H0.box (l:=[s,w]) rfl fun pa h1 nx1 H1 => ?_;obtain ⟨n,rfl,hn⟩:∃ n,s=I n/\(if -1<(if n<1 then n else 1) then (if n<1 then n else 1) else -1)=tK z:=by
  unfold tK;rcases hv with ⟨rfl,_,_⟩ | ⟨n,rfl,_,⟨a,rfl⟩ | ⟨a,rfl⟩,_⟩
  ·refine ⟨_,rfl,?_⟩
   (repeat' split) <;> omega
  ·exact ⟨_,rfl,by rw [if_pos a];rfl⟩
  ·have a':¬ z<0:=by omega
   exact ⟨_,rfl,by rw [if_neg a',if_pos a];rfl⟩
 rw [zA,bU.jl,sFx,H1.load (k:=0) (i:=0+0) rfl rfl,qbz,qb3,hn];simp only [zJ,zT];rw [bU.ret];exact hK _ _ _ _ _ H1 (zY rfl) rfl
theorem pA {v:AV} {z:Int} (hv:bP v z):Pure Tryz.prog B 193 [v] (fun v=>bP v (-z)):=by
 have hv0:=hv;obtain ⟨s,w,rfl,hv⟩:=hv;refine yB fun h nx K H0 hK=>zP zS jA 100 fun hf => ?_;rw [ku.go,ku.t11,zA,ku.jm];refine H0.box (l:=[s,w]) rfl fun pa h1 nx1 H1 => ?_;refine H1.alloc fun p h2 nx2 H2 => ?_;rw [zA,zA,ku.jl,sFx,H2.load (k:=1) (i:=0+1) (v:=w) rfl rfl];have words:∀ {x3 x4 x5:AV},IR.run ku.t9 (CS Tryz.prog B) 100 (fnO ku.res K) (yx ku.res K) (ku.fr (.agg [s,w]) (.ptr pa 0) (.ptr p 0) x3 x4 x5) h2 nx2=.ok True:=by
  intro x3 x4 x5;rw [ku.t9,zA,ku.mg,H2.zk (k:=1) (n:=2) rfl rfl];refine qS hv0 _ _ _ _ ?_;rintro _ rfl _;rw [yL,yI,zA,ku.rq,yU];refine xV _ _ _ _ ?_;rintro _ ⟨s',w',rfl,hc⟩ _;refine H2.jg (l2:=[s',w']) (k:=0) rfl rfl rfl fun h4 H4 => ?_;simp only [zJ,zT];rw [ku.ret,H4.zk (k:=0) (n:=2) rfl rfl];have e:(if (!decide (z<0))=true then -(z.natAbs:Int) else z.natAbs) = -z:=by
   by_cases c:z<0
   ·rw [Zaa c,if_neg (by decide)];omega
   ·rw [Zab c,if_pos (by decide)];omega
  rw [e] at hc;exact hK _ _ _ _ _ H4 (sD hc.fix) ⟨_,_,rfl,hc⟩
 rcases hv with ⟨rfl,rfl,h1,h2⟩ | ⟨s,rfl,rfl,hs,hb⟩
 ·rw [zfj];simp only [yN];rw [sFx,H2.load (k:=1) (i:=0+0) rfl rfl,vk,zO,zB,ku.v5];by_cases c:z = -9223372036854775808
  ·rw [Zaa c,Zag,zC,zF];exact words
  ·rw [Zab c,Zaj,zD,zA,ku.qh,sFx,H2.load (k:=1) (i:=0+0) rfl rfl,uNeg (by omega),kB];refine H2.jg (l2:=[I (-z),.zf]) (k:=0) rfl rfl rfl fun h4 H4 => ?_;simp only [zJ,zT];rw [ku.ret,H4.zk (k:=0) (n:=2) rfl rfl];exact hK _ _ _ _ _ H4 (jE (by omega)).frz (jE (by omega))
 ·rw [zjc (zcz (by omega))];simp only [yM,zQ];rw [zB,ku.v5,zC,zF];exact words
theorem fJ.two {s w:AV} {z:Int} (h:fJ s w z):(s=I z/\w=.zf /\ -9223372036854775808<=z/\z<=9223372036854775807/\∀ K:AV->OP,zi .eql (.nil .sl) w .zf K=K (.bool true))\/(z≠0/\∀ K:AV->OP,zi .eql (.nil .sl) w .zf K=K (.bool false)):=by
 rcases h with ⟨rfl,rfl,h1,h2⟩ | ⟨n,rfl,rfl,hs,hb⟩
 ·exact .inl ⟨rfl,rfl,h1,h2,fun _=>zfj⟩
 ·exact .inr ⟨by omega,fun _=>zjc (zcz (by omega))⟩
theorem zt8 {x y:Nat} (h:y<=x):(dg 18446744073709551616 y).length<=(dg 18446744073709551616 x).length:=by
 rcases Zdw (dg 18446744073709551616 x).length (dg 18446744073709551616 y).length with q | q
 ·have:=wI (b:=18446744073709551616) (by decide) q;omega
 ·exact q
theorem zkw {x y:Nat} (hx:(dg 18446744073709551616 x).length<=100000) (h:y<=x) (h0:x≠0):Pure Tryz.prog B 262 [uw (dg 18446744073709551616 x),uw (dg 18446744073709551616 y)] (· = uw (dg 18446744073709551616 (x-y))):=by
 have ox:=kF (b:=18446744073709551616) (by decide) x;have oy:=kF (b:=18446744073709551616) (by decide) y;have:=zyt (B:=B) ox.2.1 oy.2.1 (zcz h0) hx (zt8 h) (by rw [ox.1,oy.1];exact h)
 rwa [ox.1,oy.1] at this
theorem zt9 {x y:Nat} (hx:(dg 18446744073709551616 x).length<=100000) (hy:(dg 18446744073709551616 y).length<=100000):Pure Tryz.prog B 260 [uw (dg 18446744073709551616 x),uw (dg 18446744073709551616 y)] (· = uw (dg 18446744073709551616 (x+y))):=by
 have ox:=kF (b:=18446744073709551616) (by decide) x;have oy:=kF (b:=18446744073709551616) (by decide) y;have:=zys (B:=B) ox.2.1 oy.2.1 hx hy
 rwa [ox.1,oy.1] at this
theorem zua {x y:Nat} (hx:(dg 18446744073709551616 x).length<=100000) (hy:(dg 18446744073709551616 y).length<=100000) (h:x≠0\/y≠0):Pure Tryz.prog B 265 [uw (dg 18446744073709551616 x),uw (dg 18446744073709551616 y)] (· = uw (dg 18446744073709551616 (x*y))):=by
 have ox:=kF (b:=18446744073709551616) (by decide) x;have oy:=kF (b:=18446744073709551616) (by decide) y
 have:=zyu (B:=B) ox.2.1 oy.2.1 (by
  rcases h with h | h
  ·have:=zcz h;omega
  ·have:=zcz h;omega) hx hy
 rwa [ox.1,oy.1] at this
theorem zrb {a b:Int} {K:AV->OP}:zi .add .int (I a) (I b) K=K (I (IntKind.wrap .i64 (a+b))):=zvu
theorem zmc {a b:Int} (ha : -9223372036854775808<=a/\a<=9223372036854775807) (hb : -9223372036854775808<=b/\b<=9223372036854775807) :
  (decide (a<IntKind.wrap .i64 (a+b))==decide (0<b))=true↔(-9223372036854775808<=a+b/\a+b<=9223372036854775807):=by
 have e:∀ z:Int,IntKind.wrap .i64 z=(z+9223372036854775808)%18446744073709551616-9223372036854775808:=by
  intro z;rw [IntKind.wrap_i64] <;> omega
 rw [e];by_cases c:0<b
 ·rw [Zaa c];by_cases d:a+b<=9223372036854775807
  ·rw [Zaa (by omega)];simp;omega
  ·rw [Zab (by omega)];simp;omega
 ·rw [Zab c];by_cases d : -9223372036854775808<=a+b
  ·rw [Zab (by omega)];simp;omega
  ·rw [Zaa (by omega)];simp;omega
theorem zkx {va vb:AV} {a b:Int} {k:Nat} (hva:bP va a) (hvb:bP vb b) (hk:k<=90000) (hza:Zs k a) (hzb:Zs k b):Pure Tryz.prog B 197 [va,vb] (fun v=>bP v (a+b)):=by
 have sQ:=hva;have rM:=hvb;obtain ⟨s,w,rfl,hva⟩:=hva;obtain ⟨s',w',rfl,hvb⟩:=hvb;have la:=hza.len;have lb:=hzb.len;refine yB fun h nx K H0 hK=>zP zS jA 100 fun hf => ?_;rw [jc.go,jc.t30,zA,jc.jm];refine H0.box (l:=[s,w]) rfl fun pa h1 nx1 H1 => ?_;refine H1.box (l:=[s',w']) rfl fun pb h2 nx2 H2 => ?_;refine H2.alloc fun p h3 nx3 H3 => ?_;have ret:∀ {h4 nx4 v z} {x0 x1 x2 x3 x5 x6 x7 x8 x9 x10 x11 x12 x13:AV},Hp h h4 nx4 [.arr p [I 0,.zf],.arr pb [s',w'],.arr pa [s,w]]->bP v z->z=a+b->(zW 2 (.ptr p 0) v h4 nx4 fun v2 h3 n4=>yx jc.res K (jc.fr x0 x1 x2 x3 (.ptr p 0) x5 x6 x7 x8 x9 x10 x11 x12 x13) h3 n4)=.ok True:=fun H hc e=>by
  obtain ⟨s2,w2,rfl,hc⟩:=hc;refine H.jg (l2:=[s2,w2]) (k:=0) rfl rfl rfl fun h4 H4 => ?_;rw [jc.ret,H4.zk (k:=0) (n:=2) rfl rfl];exact hK _ _ _ _ _ H4 (sD hc.fix) ⟨_,_,rfl,e ▸ hc⟩
 have words:∀ {x5 x6 x7 x8 x9 x10 x11 x12 x13:AV},IR.run jc.t28 (CS Tryz.prog B) 100 (fnO jc.res K) (yx jc.res K) (jc.fr (.agg [s,w]) (.agg [s',w']) (.ptr pa 0) (.ptr pb 0) (.ptr p 0) x5 x6 x7 x8 x9 x10 x11 x12 x13) h3 nx3=.ok True:=by
  intro x5 x6 x7 x8 x9 x10 x11 x12 x13;rw [jc.t28,zA,jc.fZ,H3.zk (k:=2) (n:=2) rfl rfl];refine qS sQ _ _ _ _ ?_;rintro _ rfl _;rw [yL,yI,zA,jc.ng,H3.zk (k:=1) (n:=2) rfl rfl];refine qS rM _ _ _ _ ?_;rintro _ rfl _;rw [yL,yI,zA,zM,zA,jc.fM,bEql,zB,jc.v12];by_cases c:(decide (a<0)==decide (b<0))=true
  ·rw [c,zD,zA,jc.nP];refine zt9 (by omega) (by omega) _ _ _ _ ?_;rintro _ rfl _;refine xV _ _ _ _ ?_;intro v hv _;simp only [zJ,uA,zT];refine ret H3 hv ?_;by_cases d:a<0
   ·rw [Zaa d] at c ⊢;have:b<0:=by simpa using c
    rw [if_pos rfl];omega
   ·rw [Zab d] at c ⊢;have:¬ b<0:=by simpa using c
    rw [if_neg (by decide)];omega
  have c':(decide (a<0)==decide (b<0))=false:=by simpa using c
  rw [c',zC,zA,jc.ru];refine zq4 (by unfold Sz;omega) (by unfold Sz;omega) _ _ _ _ ?_;rintro _ rfl _;rw [pz,zB,jc.v13];have hdiff:(a<0/\0<=b)\/(0<=a/\b<0):=by
   by_cases d:a<0 <;> by_cases e:b<0 <;> simp [d,e] at c' <;> omega
  by_cases d:b.natAbs<=a.natAbs
  ·rw [Zaa (by unfold cmpN;rw [if_neg (by omega)];split <;> decide),zD,zA,jc.rV];refine zkw (by omega) d (by omega) _ _ _ _ ?_;rintro _ rfl _;refine xV _ _ _ _ ?_;intro v hv _;simp only [zJ,uA,zT];refine ret H3 hv ?_;rcases hdiff with ⟨e,f⟩ | ⟨e,f⟩
   ·rw [Zaa e,if_pos rfl];omega
   ·rw [Zab (by omega),if_neg (by decide)];omega
  ·rw [Zab (by unfold cmpN;rw [if_pos (by omega)];decide),zC,zF,zA,jc.aF];refine zkw (by omega) (by omega) (by omega) _ _ _ _ ?_;rintro _ rfl _;refine xV _ _ _ _ ?_;intro v hv _;simp only [zJ,uA,zT];refine ret H3 hv ?_;rcases hdiff with ⟨e,f⟩ | ⟨e,f⟩
   ·rw [Zab (by omega),if_neg (by decide)];omega
   ·rw [Zaa f,if_pos rfl];omega
 rw [zA,zA,jc.jl,sFx,H3.load (k:=2) (i:=0+1) (v:=w) rfl rfl];rcases hva.two with ⟨rfl,rfl,a1,a2,e1⟩ | ⟨_,e1⟩
 case inr =>
  rw [e1];simp only [yM,zQ];rw [zB,jc.v10,zC,zF];exact words
 rw [e1];simp only [yN];rw [sFx,H3.load (k:=1) (i:=0+1) (v:=w') rfl rfl];rcases hvb.two with ⟨rfl,rfl,b1,b2,e2⟩ | ⟨_,e2⟩
 case inr =>
  rw [e2,zO,zB,jc.v10,zC,zF];exact words
 rw [e2,zO,zB,jc.v10,zD,zA,jc.qh,sFx,H3.load (k:=2) (i:=0+0) rfl rfl,sFx,H3.load (k:=1) (i:=0+0) rfl rfl,zrb,zA,jc.rC,sFx,H3.load (k:=2) (i:=0+0) rfl rfl,bf,sFx,H3.load (k:=1) (i:=0+0) rfl rfl,bf,bEql,zB,jc.v11];have hw:=zmc ⟨a1,a2⟩ ⟨b1,b2⟩;by_cases c:(decide (a<IntKind.wrap .i64 (a+b))==decide (0<b))=true
 ·rw [c,zD,zA,jc.rD,qI (hw.1 c),kB];simp only [zJ,zT];exact ret H3 (jE (hw.1 c)) rfl
 ·rw [show (decide (a<IntKind.wrap .i64 (a+b))==decide (0<b))=false by simpa using c,zC,zF];exact words
theorem zrd {va vb:AV} {a b:Int} {k:Nat} (hva:bP va a) (hvb:bP vb b) (hk:k<=90000) (hza:Zs k a) (hzb:Zs k b):Pure Tryz.prog B 266 [va,vb] (fun v=>bP v (a-b)):=by
 have sQ:=hva;have rM:=hvb;obtain ⟨s,w,rfl,hva⟩:=hva;obtain ⟨s',w',rfl,hvb⟩:=hvb;refine yB fun h nx K H0 hK=>zP zS jA 100 fun hf => ?_;rw [bV.go,bV.t3,zA,bV.jm];refine H0.box (l:=[s,w]) rfl fun pa h1 nx1 H1 => ?_;refine H1.box (l:=[s',w']) rfl fun pb h2 nx2 H2 => ?_;refine H2.alloc fun p h3 nx3 H3 => ?_;rw [zA,bV.jl,H3.zk (k:=2) (n:=2) rfl rfl,H3.zk (k:=1) (n:=2) rfl rfl];refine pA rM _ _ _ _ ?_;intro vn hvn _;rw [H3.zk (k:=2) (n:=2) rfl rfl,zG];refine zkx sQ hvn hk hza (by unfold Zs at hzb ⊢;rwa [Zcy]) _ _ _ _ ?_;rintro _ ⟨s2,w2,rfl,hc⟩ _;refine H3.jg (l2:=[s2,w2]) (k:=0) rfl rfl rfl fun h4 H4 => ?_;simp only [zJ,zT];rw [bV.ret,H4.zk (k:=0) (n:=2) rfl rfl];exact hK _ _ _ _ _ H4 (sD hc.fix) ⟨_,_,rfl,hc⟩
theorem zy2 {va vb:AV} {a b:Int} {k:Nat} (hva:bP va a) (hvb:bP vb b) (hk:k<=90000) (hza:Zs k a) (hzb:Zs k b):Pure Tryz.prog B 229 [va,vb] (· = I (tK (a-b))):=by
 have sQ:=hva;have rM:=hvb;obtain ⟨s,w,rfl,hva⟩:=hva;obtain ⟨s',w',rfl,hvb⟩:=hvb;refine yB fun h nx K H0 hK=>zP zS jA 100 fun hf => ?_;rw [jo.go,jo.t21,zA,jo.jm];refine H0.box (l:=[s,w]) rfl fun pa h1 nx1 H1 => ?_;refine H1.box (l:=[s',w']) rfl fun pb h2 nx2 H2 => ?_;have words:∀ {x4 x5 x6 x7:AV},IR.run jo.t19 (CS Tryz.prog B) 100 (fnO jo.res K) (yx jo.res K) (jo.fr (.agg [s,w]) (.agg [s',w']) (.ptr pa 0) (.ptr pb 0) x4 x5 x6 x7) h2 nx2=.ok True:=by
  intro x4 x5 x6 x7;rw [jo.t19,zA,jo.ah,H2.zk (k:=1) (n:=2) rfl rfl,H2.zk (k:=0) (n:=2) rfl rfl];refine zrd sQ rM hk hza hzb _ _ _ _ ?_;intro vd hvd _;refine dA hvd _ _ _ _ ?_;rintro _ rfl _;simp only [zJ,zT];rw [jo.ret];exact hK _ _ _ _ _ H2 (zY rfl) rfl
 rw [zA,zA,jo.jl,sFx,H2.load (k:=1) (i:=0+1) (v:=w) rfl rfl];rcases hva.two with ⟨rfl,rfl,a1,a2,e1⟩ | ⟨_,e1⟩
 case inr =>
  rw [e1];simp only [yM,zQ];rw [zB,jo.v5,zC,zF];exact words
 rw [e1];simp only [yN];rw [sFx,H2.load (k:=0) (i:=0+1) (v:=w') rfl rfl];rcases hvb.two with ⟨rfl,rfl,b1,b2,e2⟩ | ⟨_,e2⟩
 case inr =>
  rw [e2,zO,zB,jo.v5,zC,zF];exact words
 rw [e2,zO,zB,jo.v5,zD,zA,zM,zA,jo.qh,sFx,H2.load (k:=1) (i:=0+0) rfl rfl,sFx,H2.load (k:=0) (i:=0+0) rfl rfl,ug,zB,jo.v6];have fin:∀ {z:Int},z=tK (a-b)->K (I z) h2 nx2=.ok True:=fun e=>hK _ _ _ _ _ H2 (zY rfl) (by rw [e]);by_cases c:a<b
 ·rw [Zaa c,zD,zA,jo.rC];simp only [zJ,uA,zT];rw [jo.ret];exact fin (by unfold tK;rw [if_pos (by omega)])
 rw [Zab c,zC,zA,jo.bJ,sFx,H2.load (k:=1) (i:=0+0) rfl rfl,sFx,H2.load (k:=0) (i:=0+0) rfl rfl,bf,zB,jo.v7];by_cases d:b<a
 ·rw [Zaa d,zD,zA,jo.mg];simp only [zJ,uA,zT];rw [jo.ret];exact fin (by unfold tK;rw [if_neg (by omega),if_pos (by omega)])
 ·rw [Zab d,zC,zF,zA,jo.fM];simp only [zJ,zT];rw [jo.ret];exact fin (by unfold tK;rw [if_neg (by omega),if_neg (by omega)])
theorem pB {va vb:AV} {a b:Int} {k:Nat} (hva:bP va a) (hvb:bP vb b) (hk:k<=90000) (hza:Zs k a) (hzb:Zs k b):Pure Tryz.prog B 198 [va,vb] (fun v=>bP v (a*b)):=by
 have sQ:=hva;have rM:=hvb;obtain ⟨s,w,rfl,hva⟩:=hva;obtain ⟨s',w',rfl,hvb⟩:=hvb;have la:=hza.len;have lb:=hzb.len;refine yB fun h nx K H0 hK=>zP zS jA 100 fun hf => ?_;rw [jf.go,jf.t24,zA,jf.jm];refine H0.box (l:=[s,w]) rfl fun pa h1 nx1 H1 => ?_;refine H1.box (l:=[s',w']) rfl fun pb h2 nx2 H2 => ?_;refine H2.alloc fun p h3 nx3 H3 => ?_;have ret:∀ {h4 nx4 v z} {x0 x1 x2 x3 x5 x6 x7 x8 x9 x10 x11 x12 x13:AV},Hp h h4 nx4 [.arr p [I 0,.zf],.arr pb [s',w'],.arr pa [s,w]]->bP v z->z=a*b->(zW 2 (.ptr p 0) v h4 nx4 fun v2 h3 n4=>yx jf.res K (jf.fr x0 x1 x2 x3 (.ptr p 0) x5 x6 x7 x8 x9 x10 x11 x12 x13) h3 n4)=.ok True:=fun H hc e=>by
  obtain ⟨s2,w2,rfl,hc⟩:=hc;refine H.jg (l2:=[s2,w2]) (k:=0) rfl rfl rfl fun h4 H4 => ?_;rw [jf.ret,H4.zk (k:=0) (n:=2) rfl rfl];exact hK _ _ _ _ _ H4 (sD hc.fix) ⟨_,_,rfl,e ▸ hc⟩
 have hsgn:(if (decide (a<0) != decide (b<0))=true then -((a.natAbs*b.natAbs:Nat):Int) else ((a.natAbs*b.natAbs:Nat):Int))=a*b:=by
  rw [<- Zed];by_cases c1:a<0 <;> by_cases c2:b<0
  ·rw [Zaa c1,Zaa c2,if_neg (by decide)];have:=Int.mul_nonneg_of_nonpos_of_nonpos (show a<=0 by omega) (show b<=0 by omega);omega
  ·rw [Zaa c1,Zab c2,if_pos (by decide)];have:=Int.mul_nonpos_of_nonpos_of_nonneg (show a<=0 by omega) (show 0<=b by omega);omega
  ·rw [Zab c1,Zaa c2,if_pos (by decide)];have:=Int.mul_nonpos_of_nonneg_of_nonpos (show 0<=a by omega) (show b<=0 by omega);omega
  ·rw [Zab c1,Zab c2,if_neg (by decide)];have:=Int.mul_nonneg (show 0<=a by omega) (show 0<=b by omega);omega
 have words:(a≠0\/b≠0)->∀ {x5 x6 x7 x8 x9 x10 x11 x12 x13:AV},IR.run jf.t22 (CS Tryz.prog B) 100 (fnO jf.res K) (yx jf.res K) (jf.fr (.agg [s,w]) (.agg [s',w']) (.ptr pa 0) (.ptr pb 0) (.ptr p 0) x5 x6 x7 x8 x9 x10 x11 x12 x13) h3 nx3=.ok True:=by
  intro hne x5 x6 x7 x8 x9 x10 x11 x12 x13;rw [jf.t22,zA,jf.rV,H3.zk (k:=2) (n:=2) rfl rfl];refine qS sQ _ _ _ _ ?_;rintro _ rfl _;rw [yL,yI,zA,jf.ah,H3.zk (k:=1) (n:=2) rfl rfl];refine qS rM _ _ _ _ ?_;rintro _ rfl _;rw [yL,yI,zA,jf.sW,bNeq];refine zua (by omega) (by omega) (by omega) _ _ _ _ ?_;rintro _ rfl _;refine xV _ _ _ _ ?_;intro v hv _;simp only [zJ,zT];exact ret H3 hv hsgn
 rw [zA,zA,jf.jl,sFx,H3.load (k:=2) (i:=0+1) (v:=w) rfl rfl];rcases hva.two with ⟨rfl,rfl,a1,a2,e1⟩ | ⟨hz,e1⟩
 case inr =>
  rw [e1];simp only [yM,zQ];rw [zB,jf.v11,zC,zF];exact words (.inl hz)
 rw [e1];simp only [yN];rw [sFx,H3.load (k:=1) (i:=0+1) (v:=w') rfl rfl];rcases hvb.two with ⟨rfl,rfl,b1,b2,e2⟩ | ⟨hz,e2⟩
 case inr =>
  rw [e2,zO,zB,jf.v11,zC,zF];exact words (.inr hz)
 rw [e2,zO,zB,jf.v11,zD,zA,jf.qh,sFx,H3.load (k:=2) (i:=0+0) rfl rfl,sFx,H3.load (k:=1) (i:=0+0) rfl rfl];refine zfh ⟨a1,a2⟩ _ _ _ _ ?_;rintro _ rfl _;rw [H3.load (k:=1) (i:=0+0) rfl rfl,zG,sFx,zG];refine zfh ⟨b1,b2⟩ _ _ _ _ ?_;rintro _ rfl _;refine zfg (by omega) (by omega) _ _ _ _ ?_;rintro _ rfl _;rw [yL,yI,zA,jf.rC,zd4];by_cases c1:a.natAbs*b.natAbs / 18446744073709551616=0
 case neg =>
  rw [Zab c1];simp only [yM,zQ];rw [zB,jf.v12,zC,zF];refine words ?_;rcases Zcc a.natAbs with q | q
  ·rw [q] at c1;simp at c1
  ·omega
 rw [Zaa c1];simp only [yN];have hlt:a.natAbs*b.natAbs<18446744073709551616:=by
  rcases Nat.div_eq_zero_iff.1 c1 with q | q
  ·omega
  ·exact q
 rw [Zao hlt,show (AV.int .u64 9223372036854775807)=U 9223372036854775807 from rfl,uLeq,zO,zB,jf.v12];by_cases c2:a.natAbs*b.natAbs<=9223372036854775807
 case neg =>
  rw [Zab c2,zC,zF];refine words ?_;rcases Zcc a.natAbs with q | q
  ·rw [q] at c2;simp at c2
  ·omega
 rw [Zaa c2,zD,zA,zA,jf.rD,sFx,H3.load (k:=2) (i:=0+0) rfl rfl,ug,sFx,H3.load (k:=1) (i:=0+0) rfl rfl,ug,bNeq,zB,jf.v13];by_cases c:(decide (a<0) != decide (b<0))=true
 ·rw [if_pos c] at hsgn;rw [c,zD,zA,jf.bJ,zct (by omega),uNeg (by omega),kB];simp only [zJ,zT];exact ret H3 (jE (by omega)) hsgn
 ·rw [if_neg c] at hsgn;rw [show (decide (a<0) != decide (b<0))=false by simpa using c,zC,zF,zA,jf.ay,zct (by omega),kB];simp only [zJ,zT];exact ret H3 (jE (by omega)) hsgn
theorem zwu {a b:Int} {K:AV->OP} (ha : -9223372036854775808<=a/\a<=9223372036854775807) (hb:1<=b):zi .quo .int (I a) (I b) K=K (I (a.tdiv b)):=by
 have e:zi .quo .int (I a) (I b) K=(bif ieq b 0 then Out.no 5 else qw (IntKind.i64.wrap (a.tdiv b)) fun z=>K (.int .i64 z)):=rfl;have h0:ieq b 0=false:=by rw [vO];exact Zab (by omega)
 rw [e,h0,cond_false,gE,Go.IntWalk.i64_quo' a b ⟨ha.1,ha.2,hb⟩]
theorem qb4 {a b:Int} {K:AV->OP} (hb:1<=b):zi .rem .int (I a) (I b) K=K (I (a.tmod b)):=by
 have e:zi .rem .int (I a) (I b) K=(bif ieq b 0 then Out.no 5 else qw (a.tmod b) fun z=>K (.int .i64 z)):=rfl;have h0:ieq b 0=false:=by rw [vO];exact Zab (by omega)
 rw [e,h0,cond_false,gE]
theorem pY {a b q r:Int} (hb:0<b) (h:a=q*b+r) (h0:0<=r) (h1:r<b):a / b=q/\a%b=r:=by
 subst h;refine ⟨?_,?_⟩
 ·rw [Int.add_comm,Int.add_mul_ediv_right _ _ (by omega),Int.ediv_eq_zero_of_lt h0 h1,Int.zero_add]
 ·rw [Int.add_comm,Int.add_mul_emod_self_right,Int.emod_eq_of_lt h0 h1]
theorem zjd {a b:Int} (hb:1<=b):(a.tmod b<0->a / b=a.tdiv b-1/\a%b=a.tmod b+b /\ -b<a.tmod b)/\(0<=a.tmod b->a / b=a.tdiv b/\a%b=a.tmod b):=by
 have e:=Int.mul_tdiv_add_tmod a b;have h1:=Int.tmod_lt_of_pos a (show 0<b by omega);have h2 : -b<a.tmod b:=by
  have:=Int.tmod_lt_of_pos (-a) (show 0<b by omega);rw [Int.neg_tmod] at this;omega
 rw [Int.mul_comm] at e;refine ⟨fun h => ?_,fun h=>pY (by omega) e.symm h h1⟩;obtain ⟨c1,c2⟩:=pY (a:=a) (b:=b) (q:=a.tdiv b-1) (r:=a.tmod b+b) (by omega) (by rw [Int.sub_mul];omega) (by omega) (by omega);exact ⟨c1,c2,h2⟩
theorem zmd {a b:Int} (hb:1<=b) (ha:a<0):(a.natAbs%b.natAbs=0->a / b = -((a.natAbs / b.natAbs:Nat):Int)/\a%b=0)/\(a.natAbs%b.natAbs≠0->a / b = -((a.natAbs / b.natAbs:Nat):Int)-1/\a%b = -((a.natAbs%b.natAbs:Nat):Int)+b):=by
 have e:=Zdq a.natAbs b.natAbs;have hm:=Zbl a.natAbs (show 0<b.natAbs by omega);have e2:(a.natAbs:Int)=(b.natAbs:Int)*((a.natAbs / b.natAbs:Nat):Int)+((a.natAbs%b.natAbs:Nat):Int):=by
  rw [<- Zeo,<- Int.natCast_add,e]
 have eb:(b.natAbs:Int)=b:=by omega
 rw [eb] at e2
 generalize a.natAbs / b.natAbs=q at *
 generalize a.natAbs%b.natAbs=r at *
 rw [Int.mul_comm] at e2;refine ⟨fun h=>pY (by omega) ?_ (by omega) (by omega),fun h=>pY (by omega) ?_ (by omega) (by omega)⟩
 ·rw [Int.neg_mul];omega
 ·rw [Int.sub_mul,Int.neg_mul];omega
theorem zje {a b:Int} (hb:1<=b) (ha:0<=a):a / b=((a.natAbs / b.natAbs:Nat):Int)/\a%b=((a.natAbs%b.natAbs:Nat):Int):=by
 have ea:(a.natAbs:Int)=a:=by omega
 have eb:(b.natAbs:Int)=b:=by omega
 rw [Int.natCast_ediv,Int.natCast_emod,ea,eb];exact ⟨rfl,rfl⟩
theorem mU {va vb:AV} {a b:Int} {k:Nat} (hva:bP va a) (hvb:bP vb b) (hk:k<=90000) (hza:Zs k a) (hzb:Zs k b) (hb:1<=b):Pure Tryz.prog B 201 [va,vb] (fun v=>∃ v1 v2,v=.tup [v1,v2]/\bP v1 (a / b)/\bP v2 (a%b)):=by
 have sQ:=hva;have rM:=hvb;obtain ⟨s,w,rfl,hva⟩:=hva;obtain ⟨s',w',rfl,hvb⟩:=hvb;have la:=hza.len;have lb:=hzb.len;refine yB fun h nx K H0 hK=>zP zS jA 100 fun hf => ?_;rw [yt.go,yt.t29,zA,yt.jm];refine H0.box (l:=[s,w]) rfl fun pa h1 nx1 H1 => ?_;refine H1.box (l:=[s',w']) rfl fun pb h2 nx2 H2 => ?_;refine H2.alloc fun p h3 nx3 H3 => ?_;refine H3.alloc fun q h4 nx4 H4 => ?_
 have tail:∀ {h5:T Blk} {nx5 p1 q1:Pa} {s1 w1 s2 w2:AV} {x6 x7 x8 x9 x10 x11 x12 x15 x16 x17:AV},Hp h h5 nx5 [.arr q1 [s2,w2],.arr p1 [s1,w1],.arr q [I 0,.zf],.arr p [I 0,.zf],.arr pb [s',w'],.arr pa [s,w]]->fJ s1 w1 (a / b)->fJ s2 w2 (a%b) ->
   IR.run yt.t22 (CS Tryz.prog B) 100 (fnO yt.res K) (yx yt.res K) (yt.fr (.agg [s,w]) (.agg [s',w']) (.ptr pa 0) (.ptr pb 0) (.ptr p 0) (.ptr q 0) x6 x7 x8 x9 x10 x11 x12 (.ptr p1 0) (.ptr q1 0) x15 x16 x17) h5 nx5=.ok True:=by
  intro h5 nx5 p1 q1 s1 w1 s2 w2 x6 x7 x8 x9 x10 x11 x12 x15 x16 x17 H i1 i2;rw [yt.t22,zA,yt.sV,H.zk (k:=1) (n:=2) rfl rfl,H.zk (k:=0) (n:=2) rfl rfl];refine H.jg (l2:=[s1,w1]) (k:=3) rfl rfl rfl fun h6 H6 => ?_;rw [H6.zk (k:=0) (n:=2) rfl rfl,zG];refine H6.jg (l2:=[s2,w2]) (k:=2) rfl rfl rfl fun h7 H7 => ?_;simp only [zJ,zT];rw [yt.ret,H7.zk (k:=3) (n:=2) rfl rfl,H7.zk (k:=2) (n:=2) rfl rfl];exact hK _ _ _ _ _ H7 (jP (sD i1.fix) (sD i2.fix)) ⟨_,_,rfl,⟨_,_,rfl,i1⟩,⟨_,_,rfl,i2⟩⟩
 have words:∀ {x6 x7 x8 x9 x10 x11 x12 x13 x14 x15 x16 x17:AV},IR.run yt.t27 (CS Tryz.prog B) 100 (fnO yt.res K) (yx yt.res K) (yt.fr (.agg [s,w]) (.agg [s',w']) (.ptr pa 0) (.ptr pb 0) (.ptr p 0) (.ptr q 0) x6 x7 x8 x9 x10 x11 x12 x13 x14 x15 x16 x17) h4 nx4=.ok True:=by
  intro x6 x7 x8 x9 x10 x11 x12 x13 x14 x15 x16 x17;rw [yt.t27,zA,yt.fM,H4.zk (k:=3) (n:=2) rfl rfl];refine qS sQ _ _ _ _ ?_;rintro _ rfl _;rw [yL,yI,zA,yt.nP,H4.zk (k:=2) (n:=2) rfl rfl];refine qS rM _ _ _ _ ?_;rintro _ rfl _;rw [yL,yI,zA,yt.sJ];refine zmb (by omega) (by unfold Sz;omega) (by unfold Sz;omega) _ _ _ _ ?_;rintro _ rfl _;rw [yL,yI,zA,yt.ru];refine xV _ _ _ _ ?_;rintro v1 hv1 _;refine xV _ _ _ _ ?_;rintro v2 hv2 _;have hv1':=hv1;have hv2':=hv2;obtain ⟨s1,w1,rfl,i1⟩:=hv1';obtain ⟨s2,w2,rfl,i2⟩:=hv2';refine H4.alloc fun p1 h5 nx5 H5 => ?_;refine H5.alloc fun q1 h6 nx6 H6 => ?_;refine H6.jg (l2:=[s1,w1]) (k:=1) rfl rfl rfl fun h7 H7 => ?_;refine H7.jg (l2:=[s2,w2]) (k:=0) rfl rfl rfl fun h8 H8 => ?_;rw [zA,zA,yt.rV,H8.zk (k:=0) (n:=2) rfl rfl];refine dA hv2 _ _ _ _ ?_;rintro _ rfl _;rw [ug,zB,yt.v17];by_cases ca:a<0
  ·rw [Zaa ca,if_pos rfl] at hv1 hv2 i1 i2 ⊢;obtain ⟨n1,n2⟩:=zmd hb ca;by_cases cr:a.natAbs%b.natAbs=0
   ·obtain ⟨e1,e2⟩:=n1 cr;rw [cr] at i2 ⊢;rw [Zab (by unfold tK;simp),zC,zF];exact tail H8 (e1 ▸ i1) (e2 ▸ (by simpa using i2))
   ·obtain ⟨e1,e2⟩:=n2 cr;have k1:Zs k (-((a.natAbs / b.natAbs:Nat):Int)):=by
     have:=Zcu a.natAbs b.natAbs;unfold Zs at hza ⊢;rw [Zcy,Zcl];omega
    have k2:Zs k 1:=by unfold Zs at hzb ⊢;show 1<_;omega
    have k3:Zs k (-((a.natAbs%b.natAbs:Nat):Int)):=by
     have:=Zbl a.natAbs (show 0<b.natAbs by omega);unfold Zs at hzb ⊢;rw [Zcy,Zcl];omega
    rw [Zaa (by unfold tK;rw [if_pos (by omega)];decide),zD,yt.ah,H8.zk (k:=1) (n:=2) rfl rfl,H8.zk (k:=0) (n:=2) rfl rfl,H8.zk (k:=4) (n:=2) rfl rfl];refine of85 (by omega) _ _ _ _ ?_;intro vo hvo _;rw [H8.zk (k:=4) (n:=2) rfl rfl,zG,H8.zk (k:=0) (n:=2) rfl rfl,zG,H8.zk (k:=1) (n:=2) rfl rfl,zG];refine zrd hv1 hvo hk k1 k2 _ _ _ _ ?_;rintro _ ⟨s3,w3,rfl,i3⟩ _;rw [H8.zk (k:=4) (n:=2) rfl rfl,zG,H8.zk (k:=0) (n:=2) rfl rfl,zG];refine zkx hv2 rM hk k3 hzb _ _ _ _ ?_;rintro _ ⟨s4,w4,rfl,i4⟩ _;refine H8.jg (l2:=[s3,w3]) (k:=1) rfl rfl rfl fun h9 H9 => ?_;refine H9.jg (l2:=[s4,w4]) (k:=0) rfl rfl rfl fun h10 H10 => ?_;exact tail H10 (e1 ▸ i3) (e2 ▸ i4)
  ·rw [Zab ca,if_neg (by decide)] at hv1 hv2 i1 i2 ⊢;obtain ⟨e1,e2⟩:=zje hb (show 0<=a by omega);rw [Zab (by unfold tK;rw [if_neg (by omega)];split <;> decide),zC,zF];exact tail H8 (e1 ▸ i1) (e2 ▸ i2)
 rw [zA,zA,yt.jl,yt.eF,yt.eG,sFx,H4.load (k:=3) (i:=0+1) (v:=w) rfl rfl];rcases hva.two with ⟨rfl,rfl,a1,a2,e1⟩ | ⟨hz,e1⟩
 case inr =>
  rw [e1];simp only [yM,zQ];rw [yt.r1_1,yt.tu];simp only [yM,zQ];rw [zB,yt.v15,zC,zF];exact words
 rw [e1];simp only [yN];rw [sFx,H4.load (k:=2) (i:=0+1) (v:=w') rfl rfl];rcases hvb.two with ⟨rfl,rfl,b1,b2,e2⟩ | ⟨hz,e2⟩
 case inr =>
  rw [e2,zO,yt.r1_1,yt.tu];simp only [yM,zQ];rw [zB,yt.v15,zC,zF];exact words
 rw [e2,zO,yt.r1_1,yt.tu];simp only [yN];rw [sFx,H4.load (k:=3) (i:=0+0) rfl rfl,vk,zO,zB,yt.v15];by_cases cm:a = -9223372036854775808
 ·rw [Zaa cm,Zag,zC,zF];exact words
 rw [Zab cm,Zaj,zD,zA,yt.qh,sFx,H4.load (k:=3) (i:=0+0) rfl rfl,sFx,H4.load (k:=2) (i:=0+0) rfl rfl,zwu ⟨a1,a2⟩ hb,sFx,H4.load (k:=3) (i:=0+0) rfl rfl,sFx,H4.load (k:=2) (i:=0+0) rfl rfl,qb4 hb,zA,zA,yt.rC,ug,zB,yt.v16];obtain ⟨f1,f2⟩:=zjd (a:=a) hb;have hq2 : -9223372036854775807<=a.tdiv b/\a.tdiv b<=9223372036854775807:=by
  have:=Int.natAbs_tdiv_le_natAbs a b;omega
 have fin:∀ {x6 x7 x8 x9 x10 x11 x12 x13 x14 x15 x16 x17:AV} {y1 y2:Int},y1=a / b->y2=a%b->(-9223372036854775808<=y1/\y1<=9223372036854775807)->(-9223372036854775808<=y2/\y2<=9223372036854775807)->(zW 2 (.ptr p 0) (.agg [I y1,.zf]) h4 nx4 fun v3 h4 n5=>zW 2 (.ptr q 0) (.agg [I y2,.zf]) h4 n5 fun v6 h7 n8=>yx yt.res K (yt.fr x6 x7 (.ptr pa 0) (.ptr pb 0) (.ptr p 0) (.ptr q 0) x8 x9 x10 x11 x12 x13 x14 x15 x16 x17 (.bool true) (.bool true)) h7 n8)=.ok True:=by
  intro x6 x7 x8 x9 x10 x11 x12 x13 x14 x15 x16 x17 y1 y2 e1 e2 g1 g2;refine H4.jg (l2:=[I y1,.zf]) (k:=1) rfl rfl rfl fun h6 H6 => ?_;refine H6.jg (l2:=[I y2,.zf]) (k:=0) rfl rfl rfl fun h7 H7 => ?_;rw [yt.ret,H7.zk (k:=1) (n:=2) rfl rfl,H7.zk (k:=0) (n:=2) rfl rfl];exact hK _ _ _ _ _ H7 (jP (jE g1).frz (jE g2).frz) ⟨_,_,rfl,e1 ▸ jE g1,e2 ▸ jE g2⟩
 have hmod:=Int.emod_nonneg a (show b≠0 by omega);have hmod2:=Int.emod_lt_of_pos a (show 0<b by omega);by_cases cr:a.tmod b<0
 ·obtain ⟨g1,g2,g3⟩:=f1 cr;rw [Zaa cr,zD,yt.rD,xw (by omega),sFx,H4.load (k:=2) (i:=0+0) rfl rfl,jy (by omega),zA,yt.rq,kB,kB];simp only [zJ,zT];refine H4.jg (l2:=[I (a.tdiv b-1),.zf]) (k:=1) rfl rfl rfl fun h6 H6 => ?_;refine H6.jg (l2:=[I (a.tmod b+b),.zf]) (k:=0) rfl rfl rfl fun h7 H7 => ?_;rw [yt.ret,H7.zk (k:=1) (n:=2) rfl rfl,H7.zk (k:=0) (n:=2) rfl rfl];exact hK _ _ _ _ _ H7 (jP (jE (by omega)).frz (jE (by omega)).frz) ⟨_,_,rfl,by rw [g1];exact jE (by omega),by rw [g2];exact jE (by omega)⟩
 ·obtain ⟨g1,g2⟩:=f2 (by omega);rw [Zab cr,zC,zF,zA,yt.rq,kB,kB];simp only [zJ,zT];refine H4.jg (l2:=[I (a.tdiv b),.zf]) (k:=1) rfl rfl rfl fun h6 H6 => ?_;refine H6.jg (l2:=[I (a.tmod b),.zf]) (k:=0) rfl rfl rfl fun h7 H7 => ?_;rw [yt.ret,H7.zk (k:=1) (n:=2) rfl rfl,H7.zk (k:=0) (n:=2) rfl rfl];exact hK _ _ _ _ _ H7 (jP (jE (by omega)).frz (jE (by omega)).frz) ⟨_,_,rfl,by rw [g1];exact jE (by omega),by rw [g2];exact jE (by omega)⟩
theorem zwv {va vb:AV} {a b c:Int} {k:Nat} (hva:bP va a) (hvb:bP vb b) (hk:k<=90000) (hza:Zs k a) (hzb:Zs k b) (hb:b≠0) (hc:a=c*b):Pure Tryz.prog B 259 [va,vb] (fun v=>bP v c):=by
 have sQ:=hva;have rM:=hvb;obtain ⟨s,w,rfl,hva⟩:=hva;obtain ⟨s',w',rfl,hvb⟩:=hvb;refine yB fun h nx K H0 hK=>zP zS jA 100 fun hf => ?_;rw [kz.go,kz.t10,zA,kz.jm];refine H0.box (l:=[s,w]) rfl fun pa h1 nx1 H1 => ?_;refine H1.box (l:=[s',w']) rfl fun pb h2 nx2 H2 => ?_;refine H2.alloc fun p h3 nx3 H3 => ?_
 have tail:∀ {h5:T Blk} {nx5:Pa} {s1 w1 s2 w2:AV} {a' b':Int} {x5 x6:AV},Hp h h5 nx5 [.arr p [I 0,.zf],.arr pb [s2,w2],.arr pa [s1,w1]]->fJ s1 w1 a'->fJ s2 w2 b'->Zs k a'->Zs k b'->1<=b'->a'=c*b' ->
   IR.run kz.t8 (CS Tryz.prog B) 100 (fnO kz.res K) (yx kz.res K) (kz.fr (.agg [s,w]) (.agg [s',w']) (.ptr pa 0) (.ptr pb 0) (.ptr p 0) x5 x6) h5 nx5=.ok True:=by
  intro h5 nx5 s1 w1 s2 w2 a' b' x5 x6 H i1 i2 z1 z2 hb' e;rw [kz.t8,zA,kz.bJ,H.zk (k:=2) (n:=2) rfl rfl,H.zk (k:=1) (n:=2) rfl rfl];refine mU ⟨_,_,rfl,i1⟩ ⟨_,_,rfl,i2⟩ hk z1 z2 hb' _ _ _ _ ?_;rintro _ ⟨v1,v2,rfl,⟨s3,w3,rfl,i3⟩,⟨s4,w4,rfl,i4⟩⟩ _;rw [yL,yI];refine H.alloc fun p1 h6 nx6 H6 => ?_;refine H6.alloc fun q1 h7 nx7 H7 => ?_;refine H7.jg (l2:=[s3,w3]) (k:=1) rfl rfl rfl fun h8 H8 => ?_;refine H8.jg (l2:=[s4,w4]) (k:=0) rfl rfl rfl fun h9 H9 => ?_;rw [zA,kz.mg,H9.zk (k:=1) (n:=2) rfl rfl];refine H9.jg (l2:=[s3,w3]) (k:=2) rfl rfl rfl fun h10 H10 => ?_;simp only [zJ,zT];rw [kz.ret,H10.zk (k:=2) (n:=2) rfl rfl];have:a' / b'=c:=by rw [e];exact Int.mul_ediv_cancel _ (by omega)
  rw [this] at i3;exact hK _ _ _ _ _ H10 (sD i3.fix) ⟨_,_,rfl,i3⟩
 rw [zA,zA,kz.jl,H3.zk (k:=1) (n:=2) rfl rfl];refine dA rM _ _ _ _ ?_;rintro _ rfl _;rw [ug,zB,kz.v6];by_cases cb:b<0
 ·rw [Zaa (by unfold tK;rw [if_pos cb];decide),zD,kz.qh,H3.zk (k:=2) (n:=2) rfl rfl,H3.zk (k:=1) (n:=2) rfl rfl];refine pA sQ _ _ _ _ ?_;rintro _ ⟨s3,w3,rfl,i3⟩ _;rw [H3.zk (k:=1) (n:=2) rfl rfl,zG];refine pA rM _ _ _ _ ?_;rintro _ ⟨s4,w4,rfl,i4⟩ _;refine H3.jg (l2:=[s3,w3]) (k:=2) rfl rfl rfl fun h8 H8 => ?_;refine H8.jg (l2:=[s4,w4]) (k:=1) rfl rfl rfl fun h9 H9 => ?_;exact tail H9 i3 i4 (by unfold Zs at hza ⊢;rwa [Zcy]) (by unfold Zs at hzb ⊢;rwa [Zcy]) (by omega) (by rw [hc,Int.mul_neg])
 ·rw [Zab (by unfold tK;rw [if_neg cb];split <;> decide),zC,zF];exact tail H3 hva hvb hza hzb (by omega) hc
theorem fJ.sgn {s w:AV} {z:Int} (h:fJ s w z):∃ n,s=I n/\(n<0↔z<0):=by
 rcases h with ⟨rfl,_⟩ | ⟨n,rfl,_,⟨a,rfl⟩ | ⟨a,rfl⟩,_⟩
 ·exact ⟨_,rfl,Iff.rfl⟩
 ·exact ⟨_,rfl,by constructor <;> intro <;> omega⟩
 ·exact ⟨_,rfl,by constructor <;> intro <;> omega⟩
theorem zre {v:AV} {z:Int} (hv:bP v z):Pure Tryz.prog B 299 [v] (fun v=>bP v (z.natAbs:Int)):=by
 have hv0:=hv;obtain ⟨s,w,rfl,hv⟩:=hv;obtain ⟨n,rfl,hn⟩:=hv.sgn;refine yB fun h nx K H0 hK=>zP zS jA 100 fun hf => ?_;rw [xu.go,xu.t9,zA,xu.jm];refine H0.box (l:=[I n,w]) rfl fun pa h1 nx1 H1 => ?_;refine H1.alloc fun p h2 nx2 H2 => ?_;rw [zA,zA,xu.jl,sFx,H2.load (k:=1) (i:=0+0) rfl rfl,ug,zB,xu.v3];by_cases c:n<0
 ·rw [Zaa c,zD,zA,xu.qh,H2.zk (k:=1) (n:=2) rfl rfl];refine pA hv0 _ _ _ _ ?_;rintro _ ⟨s',w',rfl,hc⟩ _;refine H2.jg (l2:=[s',w']) (k:=0) rfl rfl rfl fun h4 H4 => ?_;simp only [zJ,zT];rw [xu.ret,H4.zk (k:=0) (n:=2) rfl rfl];have:=hn.1 c;rw [show -z=(z.natAbs:Int) by omega] at hc;exact hK _ _ _ _ _ H4 (sD hc.fix) ⟨_,_,rfl,hc⟩
 ·rw [Zab c,zC,zF,zA,xu.mg,H2.zk (k:=1) (n:=2) rfl rfl];refine H2.jg (l2:=[I n,w]) (k:=0) rfl rfl rfl fun h4 H4 => ?_;simp only [zJ,zT];rw [xu.ret,H4.zk (k:=0) (n:=2) rfl rfl];have:¬ z<0:=fun q=>c (hn.2 q);rw [show z=(z.natAbs:Int) by omega] at hv;exact hK _ _ _ _ _ H4 (sD hv.fix) ⟨_,_,rfl,hv⟩
theorem zy3 {va vb:AV} {a b:Int} {k:Nat} (hva:bP va a) (hvb:bP vb b) (hk:k<=90000) (hza:Zs k a) (hzb:Zs k b):Pure Tryz.prog B 258 [va,vb] (fun v=>bP v (Int.gcd a b:Int)):=by
 have sQ:=hva;have rM:=hvb;obtain ⟨s,w,rfl,hva⟩:=hva;obtain ⟨s',w',rfl,hvb⟩:=hvb;refine yB fun h nx K H0 hK=>zP zS jA (b.natAbs+100) fun hf => ?_;rw [uh.go,uh.t16,zA,uh.jm];refine H0.box (l:=[s,w]) rfl fun pa h1 nx1 H1 => ?_;refine H1.box (l:=[s',w']) rfl fun pb h2 nx2 H2 => ?_;refine H2.alloc fun p h3 nx3 H3 => ?_;rw [zA,uh.jl,H3.zk (k:=2) (n:=2) rfl rfl,H3.zk (k:=1) (n:=2) rfl rfl];refine zre sQ _ _ _ _ ?_;rintro _ ⟨s1,w1,rfl,i1⟩ _;rw [H3.zk (k:=1) (n:=2) rfl rfl,zG];refine zre rM _ _ _ _ ?_;rintro _ ⟨s2,w2,rfl,i2⟩ _;refine H3.jg (l2:=[s1,w1]) (k:=2) rfl rfl rfl fun h4 H4 => ?_;refine H4.jg (l2:=[s2,w2]) (k:=1) rfl rfl rfl fun h5 H5 => ?_;rw [zA,zM];refine uh.zzq (fun m h' nx'=>∃ (x y:Nat) (s1 w1 s2 w2:AV),fJ s1 w1 (x:Int)/\fJ s2 w2 (y:Int)/\m=y/\Zs k (x:Int)/\Zs k (y:Int)/\Nat.gcd x y=Int.gcd a b/\Hp h h' nx' [.arr p [I 0,.zf],.arr pb [s2,w2],.arr pa [s1,w1]]) (m:=b.natAbs) (by omega) ⟨a.natAbs,b.natAbs,s1,w1,s2,w2,i1,i2,rfl,hza,hzb,rfl,H5⟩ ?_;rintro m z5 z6 h6 nx6 R ⟨x,y,s1,w1,s2,w2,i1,i2,rfl,z1,z2,hg,H6⟩ hR;rw [uh.t9,zA,zA,uh.qh,H6.zk (k:=1) (n:=2) rfl rfl];refine dA ⟨_,_,rfl,i2⟩ _ _ _ _ ?_;rintro _ rfl _;rw [vk,zB,uh.v6];by_cases c:m=0
 ·subst c;rw [Zaa (by rfl),Zag,zC,zZ,yH,zA,uh.ng,H6.zk (k:=2) (n:=2) rfl rfl];refine H6.jg (l2:=[s1,w1]) (k:=0) rfl rfl rfl fun h7 H7 => ?_;simp only [zJ,zT];rw [uh.ret,H7.zk (k:=0) (n:=2) rfl rfl];rw [Nat.gcd_zero_right] at hg;rw [hg] at i1;exact hK _ _ _ _ _ H7 (sD i1.fix) ⟨_,_,rfl,i1⟩
 ·have hs:tK (m:Int)=1:=by unfold tK;rw [if_neg (by omega),if_pos (by omega)]
  rw [hs,Zab (by decide),Zaj,zD,zF,zM,zA,uh.bJ,H6.zk (k:=2) (n:=2) rfl rfl,H6.zk (k:=1) (n:=2) rfl rfl];refine mU ⟨_,_,rfl,i1⟩ ⟨_,_,rfl,i2⟩ hk z1 z2 (by omega) _ _ _ _ ?_;rintro _ ⟨v1,v2,rfl,⟨s3,w3,rfl,i3⟩,⟨s4,w4,rfl,i4⟩⟩ _;rw [yL,yI];refine H6.alloc fun p1 h7 nx7 H7 => ?_;refine H7.alloc fun q1 h8 nx8 H8 => ?_;refine H8.jg (l2:=[s3,w3]) (k:=1) rfl rfl rfl fun h9 H9 => ?_;refine H9.jg (l2:=[s4,w4]) (k:=0) rfl rfl rfl fun h10 H10 => ?_;rw [uh.mg,H10.zk (k:=3) (n:=2) rfl rfl,H10.zk (k:=0) (n:=2) rfl rfl];refine H10.jg (l2:=[s2,w2]) (k:=4) rfl rfl rfl fun h11 H11 => ?_;rw [H11.zk (k:=0) (n:=2) rfl rfl,zG];refine H11.jg (l2:=[s4,w4]) (k:=3) rfl rfl rfl fun h12 H12 => ?_;rw [<- Int.natCast_emod] at i4;have hlt:=Zbl x (show 0<m by omega);refine hR (x%m) _ _ _ _ hlt ⟨m,x%m,s2,w2,s4,w4,i2,i4,rfl,z2,?_,?_,H12.drop.drop⟩
  ·unfold Zs at z2 ⊢;simp only [Zcl] at z2 ⊢;omega
  ·rw [<- hg,Nat.gcd_comm x m,Nat.gcd_rec m x,Nat.gcd_comm]
theorem mZ {t:T AV} {l:List AV} {off n:Nat} (h:yP t 0 l.length=l) (hle:off+n<=l.length):yP t off n=(l.drop off).take n:=by
 apply Zcj;intro i;by_cases hi:i<n
 ·rw [yO _ _ _ _ hi,List.getElem?_take_of_lt hi,List.getElem?_drop];have:=yO t 0 l.length (off+i) (by omega);rw [h,Zbe] at this;exact this.symm
 ·rw [List.getElem?_eq_none (by rw [uH];omega),List.getElem?_eq_none (by simp;omega)]
theorem Hp.qf {h0 h:T Blk} {nx:Pa} {L:List Ob} {k n off:Nat} {id:Pa} {l l2:List AV} {op:AV->OP} (H:Hp h0 h nx L) (hk:L[k]? = some (.arr id l)) (hle:off+n<=l.length) (he:(l.drop off).take n=l2):zE n (.ptr id off) h op=op (.agg l2):=by
 obtain ⟨o,t,h1,h2⟩:=H.own _ (Zae hk);show qc (T.get .no id h) (fun _ m t=>bif Nat.ble (off+n) m then op (.agg (yP t off n)) else .no 8) (.no 9)=_;rw [h1];show (bif Nat.ble (off+n) l.length then op (.agg (yP t off n)) else .no 8)=_;rw [Zaf hle,cond_true,mZ h2 hle,he]
def jX (v:AV) (q:Rat):Prop:=∃ s w s' w',v=.agg [s,w,s',w']/\fJ s w q.num/\fJ s' w' (q.den:Int)
def Qs (k:Nat) (q:Rat):Prop:=Zs k q.num/\Zs k (q.den:Int)
theorem fJ.fix4 {s w s' w':AV} {a b:Int} (h:fJ s w a) (h':fJ s' w' b):∀ v∈[s,w,s',w'],fP v=true:=by
 intro v hv;rcases List.mem_cons.1 hv with rfl | hv
 ·exact h.fix _ (by simp)
 rcases List.mem_cons.1 hv with rfl | hv
 ·exact h.fix _ (by simp)
 exact h'.fix _ hv
theorem fJ.build {s w s' w':AV} {a b:Int} (h:fJ s w a) (h':fJ s' w' b) {K:AV->OP}:gC [(I 0),.zf,(I 0),.zf] [(0,2,.agg [s,w]),(2,2,.agg [s',w'])] K=K (.agg [s,w,s',w']):=nr rfl
theorem Zs.mono {k m:Nat} {z:Int} (h:Zs k z) (hkm:k<=m):Zs m z:=Zdk h (Zei (by decide) hkm)
theorem Zs.mul {k m:Nat} {a b:Int} (ha:Zs k a) (hb:Zs m b):Zs (k+m) (a*b):=by
 unfold Zs at *
 rw [Zed,Zcn];exact Nat.mul_lt_mul'' ha hb
theorem Zs.add {k:Nat} {a b:Int} (ha:Zs k a) (hb:Zs k b):Zs (k+1) (a+b):=by
 unfold Zs at *
 have h1:=Int.natAbs_add_le a b;have h2:18446744073709551616 ^ (k+1)=18446744073709551616 ^ k*18446744073709551616:=Zbh ..;omega
theorem mR {v:AV} {q:Rat} (hv:jX v q):Pure Tryz.prog B 122 [v] (· = .bool (decide (q.den=1))):=by
 obtain ⟨s,w,s',w',rfl,h1,h2⟩:=hv;refine yB fun h nx K H0 hK=>zP zS jA 100 fun hf => ?_;rw [qx.go,qx.t3,zA,qx.jm];refine H0.box (l:=[s,w,s',w']) rfl fun pa h1 nx1 H1 => ?_;rw [zA,qx.jl,qx.eF,qx.eG,sFx,sFx,H1.load (k:=0) (i:=0+2+1) (v:=w') rfl rfl];rcases h2.two with ⟨rfl,rfl,b1,b2,e2⟩ | ⟨hz,e2⟩
 ·rw [e2];simp only [yN];rw [sFx,sFx,H1.load (k:=0) (i:=0+2+0) rfl rfl,qx.r1_1,qx.tu];simp only [yN];rw [ve];simp only [zO];simp only [zJ,zT];rw [qx.ret];exact hK _ _ _ _ _ H1 (zY rfl) (by congr 1;exact decide_eq_decide.2 (by omega))
 ·rw [e2];simp only [yM];rw [qx.r1_1,qx.tu];simp only [yM,zQ];simp only [zJ,zT];rw [qx.ret];refine hK _ _ _ _ _ H1 (zY rfl) ?_;rcases h2 with ⟨rfl,rfl,_⟩ | ⟨n,rfl,rfl,_,hb⟩
  ·have:=e2 fun b=>match b with | .bool true=>.no 1 | _=>.ok True
   rw [zfj] at this;cases this
  ·rw [Zab (by omega)]
theorem zc0 {n d:Int} (hd:0<d):(Rat.divInt n d).num=n / (Int.gcd n d:Int)/\((Rat.divInt n d).den:Int)=d / (Int.gcd n d:Int):=by
 refine ⟨?_,?_⟩
 ·rw [Rat.num_divInt,Int.sign_eq_one_of_pos hd,Int.one_mul,Int.gcd_comm]
 ·rw [Rat.den_divInt,if_neg (by omega),Int.gcd_comm,Int.natCast_ediv]
  congr 1
  omega
theorem zky {z:Int}:((z:Rat)).num=z/\(((z:Rat)).den:Int)=1:=⟨Zeq z,by rw [Rat.den_intCast];rfl⟩
theorem zhk {v:AV} {z:Int} (hv:bP v z):Pure Tryz.prog B 186 [v] (fun v=>jX v (z:Rat)):=by
 obtain ⟨s,w,rfl,hv⟩:=hv;refine yB fun h nx K H0 hK=>zP zS jA 100 fun hf => ?_;rw [bW.go,bW.t3,zA,bW.jm];refine H0.box (l:=[s,w]) rfl fun pa h1 nx1 H1 => ?_;refine H1.alloc fun p h2 nx2 H2 => ?_;rw [zA,bW.jl,H2.zk (k:=1) (n:=2) rfl rfl];refine of85 (by omega) _ _ _ _ ?_;rintro _ ⟨s',w',rfl,h'⟩ _;rw [H2.zk (k:=1) (n:=2) rfl rfl,zG,hv.build h'];refine H2.jg (l2:=[s,w,s',w']) (k:=0) rfl rfl rfl fun h4 H4 => ?_;simp only [zJ,zT];rw [bW.ret,H4.zk (k:=0) (n:=4) rfl rfl];exact hK _ _ _ _ _ H4 (sD (hv.fix4 h')) ⟨_,_,_,_,rfl,by rw [zky.1];exact hv,by rw [zky.2];exact h'⟩
theorem f89 {z:Int} (h : -9223372036854775808<=z/\z<=9223372036854775807):Pure Tryz.prog B 96 [I z] (fun v=>jX v (z:Rat)):=by
 refine yB fun hh nx K H0 hK=>zP zS jA 100 fun hf => ?_;rw [F96.go,F96.t3,zA,F96.jm];refine H0.alloc fun p h2 nx2 H2 => ?_;rw [zA,F96.jl];refine of85 h _ _ _ _ ?_;intro v hv _;refine zhk hv _ _ _ _ ?_;rintro _ ⟨s,w,s',w',rfl,i1,i2⟩ _;refine H2.jg (l2:=[s,w,s',w']) (k:=0) rfl rfl rfl fun h4 H4 => ?_;simp only [zJ,zT];rw [F96.ret,H4.zk (k:=0) (n:=4) rfl rfl];exact hK _ _ _ _ _ H4 (sD (i1.fix4 i2)) ⟨_,_,_,_,rfl,i1,i2⟩
theorem zfk {va vb:AV} {a b:Int} {k:Nat} (hva:bP va a) (hvb:bP vb b) (hk:k<=90000) (hza:Zs k a) (hzb:Zs k b) (hb:b≠0):Pure Tryz.prog B 195 [va,vb] (fun v=>jX v (Rat.divInt a b)):=by
 have sQ:=hva;have rM:=hvb;obtain ⟨s,w,rfl,hva⟩:=hva;obtain ⟨s',w',rfl,hvb⟩:=hvb;refine yB fun h nx K H0 hK=>zP zS jA 100 fun hf => ?_;rw [gu.go,gu.t16,zA,gu.jm];refine H0.box (l:=[s,w]) rfl fun pa h1 nx1 H1 => ?_;refine H1.box (l:=[s',w']) rfl fun pb h2 nx2 H2 => ?_;refine H2.alloc fun p h3 nx3 H3 => ?_
 have tail:∀ {h5:T Blk} {nx5:Pa} {s1 w1 s2 w2:AV} {a' b':Int} {x5 x6 x7:AV},Hp h h5 nx5 [.arr p [I 0,.zf,I 0,.zf],.arr pb [s2,w2],.arr pa [s1,w1]]->fJ s1 w1 a'->fJ s2 w2 b'->Zs k a'->Zs k b'->1<=b'->Rat.divInt a' b'=Rat.divInt a b ->
   IR.run gu.t14 (CS Tryz.prog B) 100 (fnO gu.res K) (yx gu.res K) (gu.fr (.agg [s,w]) (.agg [s',w']) (.ptr pa 0) (.ptr pb 0) (.ptr p 0) x5 x6 x7) h5 nx5=.ok True:=by
  intro h5 nx5 s1 w1 s2 w2 a' b' x5 x6 x7 H i1 i2 z1 z2 hb' e;obtain ⟨d1,d2⟩:=zc0 (n:=a') (show 0<b' by omega);have general:∀ {x5 x6 x7:AV},IR.run gu.t13 (CS Tryz.prog B) 100 (fnO gu.res K) (yx gu.res K) (gu.fr (.agg [s,w]) (.agg [s',w']) (.ptr pa 0) (.ptr pb 0) (.ptr p 0) x5 x6 x7) h5 nx5=.ok True:=by
   intro x5 x6 x7;rw [gu.t13,zA,gu.rG,H.zk (k:=2) (n:=2) rfl rfl,H.zk (k:=1) (n:=2) rfl rfl];refine zy3 ⟨_,_,rfl,i1⟩ ⟨_,_,rfl,i2⟩ hk z1 z2 _ _ _ _ ?_;rintro _ ⟨s3,w3,rfl,i3⟩ _;have g0:0<Int.gcd a' b':=Int.gcd_pos_of_ne_zero_right _ (by omega);have g1:Zs k (Int.gcd a' b':Int):=by
    have:Int.gcd a' b'<=b'.natAbs:=Nat.le_of_dvd (by omega) (Int.gcd_dvd_natAbs_right a' b');unfold Zs at z2 ⊢;rw [Zcl];omega
   refine H.alloc fun p1 h6 nx6 H6 => ?_;refine H6.jg (l2:=[s3,w3]) (k:=0) rfl rfl rfl fun h7 H7 => ?_;rw [zA,gu.fZ,H7.zk (k:=3) (n:=2) rfl rfl,H7.zk (k:=0) (n:=2) rfl rfl,H7.zk (k:=2) (n:=2) rfl rfl,H7.zk (k:=0) (n:=2) rfl rfl];refine zwv (c:=a' / (Int.gcd a' b':Int)) ⟨_,_,rfl,i1⟩ ⟨_,_,rfl,i3⟩ hk z1 g1 (by omega) (Int.ediv_mul_cancel (Int.gcd_dvd_left ..)).symm _ _ _ _ ?_;rintro _ ⟨s4,w4,rfl,i4⟩ _;rw [H7.zk (k:=0) (n:=2) rfl rfl,zG,H7.zk (k:=2) (n:=2) rfl rfl,zG];refine zwv (c:=b' / (Int.gcd a' b':Int)) ⟨_,_,rfl,i2⟩ ⟨_,_,rfl,i3⟩ hk z2 g1 (by omega) (Int.ediv_mul_cancel (Int.gcd_dvd_right ..)).symm _ _ _ _ ?_;rintro _ ⟨s5,w5,rfl,i5⟩ _;rw [i4.build i5];refine H7.jg (l2:=[s4,w4,s5,w5]) (k:=1) rfl rfl rfl fun h8 H8 => ?_;simp only [zJ,zT];rw [gu.ret,H8.zk (k:=1) (n:=4) rfl rfl];exact hK _ _ _ _ _ H8 (sD (i4.fix4 i5)) ⟨_,_,_,_,rfl,by rw [<- e,d1];exact i4,by rw [<- e,d2];exact i5⟩
  rw [gu.t14,zA,zA,gu.bJ,sFx,H.load (k:=1) (i:=0+1) (v:=w2) rfl rfl];rcases i2.two with ⟨rfl,rfl,b1,b2,e2⟩ | ⟨hz,e2⟩
  ·rw [e2];simp only [yN];rw [sFx,H.load (k:=1) (i:=0+0) rfl rfl,ve,zO,zB,gu.v7];by_cases c:b'=1
   ·subst c;rw [Zaa rfl,zD,zA,gu.mg,H.zk (k:=2) (n:=2) rfl rfl,H.zk (k:=1) (n:=2) rfl rfl,i1.build i2];refine H.jg (l2:=[s1,w1,I 1,.zf]) (k:=0) rfl rfl rfl fun h8 H8 => ?_;simp only [zJ,zT];rw [gu.ret,H8.zk (k:=0) (n:=4) rfl rfl];rw [Int.gcd_one] at d1 d2;exact hK _ _ _ _ _ H8 (sD (i1.fix4 i2)) ⟨_,_,_,_,rfl,by rw [<- e,d1];simpa using i1,by rw [<- e,d2];simpa using i2⟩
   ·rw [Zab c,zC,zF];exact general
  ·rw [e2];simp only [yM,zQ];rw [zB,gu.v7,zC,zF];exact general
 rw [zA,zA,gu.jl,H3.zk (k:=1) (n:=2) rfl rfl];refine dA rM _ _ _ _ ?_;rintro _ rfl _;rw [ug,zB,gu.v6];by_cases cb:b<0
 ·rw [Zaa (by unfold tK;rw [if_pos cb];decide),zD,gu.qh,H3.zk (k:=2) (n:=2) rfl rfl,H3.zk (k:=1) (n:=2) rfl rfl];refine pA sQ _ _ _ _ ?_;rintro _ ⟨s3,w3,rfl,i3⟩ _;rw [H3.zk (k:=1) (n:=2) rfl rfl,zG];refine pA rM _ _ _ _ ?_;rintro _ ⟨s4,w4,rfl,i4⟩ _;refine H3.jg (l2:=[s3,w3]) (k:=2) rfl rfl rfl fun h8 H8 => ?_;refine H8.jg (l2:=[s4,w4]) (k:=1) rfl rfl rfl fun h9 H9 => ?_;exact tail H9 i3 i4 (by unfold Zs at hza ⊢;rwa [Zcy]) (by unfold Zs at hzb ⊢;rwa [Zcy]) (by omega) (Rat.neg_divInt_neg ..)
 ·rw [Zab (by unfold tK;rw [if_neg cb];split <;> decide),zC,zF];exact tail H3 hva hvb hza hzb (by omega) rfl
theorem uGWt (op:KW3->OP) (h:T Blk) (nx:Pa) (k:KW3):sGW (.bool true) true op h nx k=op k:=nr rfl
theorem uGWf (op:KW3->OP) (h:T Blk) (nx:Pa) (k:KW3):sGW (.bool false) true op h nx k=k .u h nx:=nr rfl
theorem wW (q:Rat):Rat.divInt q.num (q.den:Int)=q:=Rat.num_divInt_den q
theorem kU (q:Rat):(q.den:Int)≠0:=by have:=q.den_nz;omega
theorem zue (a b:Rat):Rat.divInt (a.num*b.num) ((a.den:Int)*(b.den:Int))=a*b:=by
 rw [<- Rat.divInt_mul_divInt,wW,wW]
theorem zuf (a b:Rat):Rat.divInt (a.num*(b.den:Int)+b.num*(a.den:Int)) ((a.den:Int)*(b.den:Int))=a+b:=by
 rw [<- Rat.divInt_add_divInt _ _ (kU a) (kU b),wW,wW]
theorem zd8 {q:Rat} (h:q.den=1):((q.num:Int):Rat)=q:=Rat.ext (Zeq _) (by rw [Rat.den_intCast,h])
theorem zjf (a b:Rat):a=b↔a.num*(b.den:Int)=b.num*(a.den:Int):=by
 have:=Rat.divInt_eq_divInt_iff (n₁:=a.num) (n₂:=b.num) (kU a) (kU b)
 rwa [wW,wW] at this
theorem fV {z:Int}:tK z=0↔z=0:=by unfold tK;split <;> (try split) <;> constructor <;> intro <;> omega
theorem pR {v:AV} {q:Rat} (hv:jX v q):Pure Tryz.prog B 110 [v] (· = I (tK q.num)):=by
 obtain ⟨s,w,s',w',rfl,i1,i2⟩:=hv;refine yB fun h nx K H0 hK=>zP zS jA 100 fun hf => ?_;rw [bY.go,bY.t3,zA,bY.jm];refine H0.box (l:=[s,w,s',w']) rfl fun pa h1 nx1 H1 => ?_;rw [zA,bY.jl,sFx,H1.qf (k:=0) (l2:=[s,w]) rfl (by simp) rfl];refine dA ⟨_,_,rfl,i1⟩ _ _ _ _ ?_;rintro _ rfl _;simp only [zJ,zT];rw [bY.ret];exact hK _ _ _ _ _ H1 (zY rfl) rfl
theorem zkz {v:AV} {q:Rat} (hv:jX v q):Pure Tryz.prog B 107 [v] (fun v=>jX v (-q)):=by
 obtain ⟨s,w,s',w',rfl,i1,i2⟩:=hv;refine yB fun h nx K H0 hK=>zP zS jA 100 fun hf => ?_;rw [bZ.go,bZ.t3,zA,bZ.jm];refine H0.box (l:=[s,w,s',w']) rfl fun pa h1 nx1 H1 => ?_;refine H1.alloc fun p h2 nx2 H2 => ?_;have ln:∀ op:AV->OP,zE 2 (.ptr pa (0+0)) h2 op=op (.agg [s,w]):=fun op=>H2.qf (k:=1) rfl (by simp) rfl;have ld:∀ op:AV->OP,zE 2 (.ptr pa (0+2)) h2 op=op (.agg [s',w']):=fun op=>H2.qf (k:=1) rfl (by simp) rfl;rw [zA,bZ.jl,sFx,ln,sFx,ld];refine pA ⟨_,_,rfl,i1⟩ _ _ _ _ ?_;rintro _ ⟨s3,w3,rfl,i3⟩ _;rw [ld,zG,sFx,zG,i3.build i2];refine H2.jg (l2:=[s3,w3,s',w']) (k:=0) rfl rfl rfl fun h4 H4 => ?_;simp only [zJ,zT];rw [bZ.ret,H4.zk (k:=0) (n:=4) rfl rfl];exact hK _ _ _ _ _ H4 (sD (i3.fix4 i2)) ⟨_,_,_,_,rfl,by rw [Rat.neg_num];exact i3,by rw [Rat.neg_den];exact i2⟩
theorem zk0 {v:AV} {q:Rat} {k:Nat} (hv:jX v q) (hk:k<=90000) (hq:Qs k q) (h0:q≠0):Pure Tryz.prog B 112 [v] (fun v=>jX v q⁻¹):=by
 obtain ⟨s,w,s',w',rfl,i1,i2⟩:=hv;refine yB fun h nx K H0 hK=>zP zS jA 100 fun hf => ?_;rw [cu.go,cu.t3,zA,cu.jm];refine H0.box (l:=[s,w,s',w']) rfl fun pa h1 nx1 H1 => ?_;refine H1.alloc fun p h2 nx2 H2 => ?_;have ln:∀ op:AV->OP,zE 2 (.ptr pa (0+0)) h2 op=op (.agg [s,w]):=fun op=>H2.qf (k:=1) rfl (by simp) rfl;have ld:∀ op:AV->OP,zE 2 (.ptr pa (0+2)) h2 op=op (.agg [s',w']):=fun op=>H2.qf (k:=1) rfl (by simp) rfl;rw [zA,cu.jl,sFx,ld,sFx,ln];refine zfk ⟨_,_,rfl,i2⟩ ⟨_,_,rfl,i1⟩ hk hq.2 hq.1 (fun e=>h0 (Rat.num_eq_zero.1 e)) _ _ _ _ ?_;rintro _ ⟨s3,w3,s4,w4,rfl,i3,i4⟩ _;refine H2.jg (l2:=[s3,w3,s4,w4]) (k:=0) rfl rfl rfl fun h4 H4 => ?_;simp only [zJ,zT];rw [cu.ret,H4.zk (k:=0) (n:=4) rfl rfl];rw [<- Rat.inv_def] at i3 i4;exact hK _ _ _ _ _ H4 (sD (i3.fix4 i4)) ⟨_,_,_,_,rfl,i3,i4⟩
theorem zfl {va vb:AV} {a b:Rat} {k:Nat} (hva:jX va a) (hvb:jX vb b) (hk:k<=40000) (ha:Qs k a) (hb:Qs k b):Pure Tryz.prog B 119 [va,vb] (fun v=>jX v (a*b)):=by
 obtain ⟨s,w,s',w',rfl,i1,i2⟩:=hva;obtain ⟨t,u,t',u',rfl,j1,j2⟩:=hvb;refine yB fun h nx K H0 hK=>zP zS jA 100 fun hf => ?_;rw [cO.go,cO.t3,zA,cO.jm];refine H0.box (l:=[s,w,s',w']) rfl fun pa h1 nx1 H1 => ?_;refine H1.box (l:=[t,u,t',u']) rfl fun pb h2 nx2 H2 => ?_;refine H2.alloc fun p h3 nx3 H3 => ?_;have an:∀ op:AV->OP,zE 2 (.ptr pa (0+0)) h3 op=op (.agg [s,w]):=fun op=>H3.qf (k:=2) rfl (by simp) rfl;have ad:∀ op:AV->OP,zE 2 (.ptr pa (0+2)) h3 op=op (.agg [s',w']):=fun op=>H3.qf (k:=2) rfl (by simp) rfl;have bn:∀ op:AV->OP,zE 2 (.ptr pb (0+0)) h3 op=op (.agg [t,u]):=fun op=>H3.qf (k:=1) rfl (by simp) rfl;have bd:∀ op:AV->OP,zE 2 (.ptr pb (0+2)) h3 op=op (.agg [t',u']):=fun op=>H3.qf (k:=1) rfl (by simp) rfl;rw [zA,cO.jl,sFx,an,sFx,bn,sFx,ad,sFx,bd];refine pB ⟨_,_,rfl,i1⟩ ⟨_,_,rfl,j1⟩ (show k<=90000 by omega) ha.1 hb.1 _ _ _ _ ?_;intro v1 hv1 _;rw [bd,zG,sFx,zG,ad,zG,sFx,zG];refine pB ⟨_,_,rfl,i2⟩ ⟨_,_,rfl,j2⟩ (show k<=90000 by omega) ha.2 hb.2 _ _ _ _ ?_;intro v2 hv2 _;refine zfk hv1 hv2 (show k+k<=90000 by omega) (ha.1.mul hb.1) (ha.2.mul hb.2) (Int.mul_ne_zero (kU a) (kU b)) _ _ _ _ ?_;rintro _ ⟨s3,w3,s4,w4,rfl,i3,i4⟩ _;refine H3.jg (l2:=[s3,w3,s4,w4]) (k:=0) rfl rfl rfl fun h4 H4 => ?_;simp only [zJ,zT];rw [cO.ret,H4.zk (k:=0) (n:=4) rfl rfl];rw [zue] at i3 i4;exact hK _ _ _ _ _ H4 (sD (i3.fix4 i4)) ⟨_,_,_,_,rfl,i3,i4⟩
theorem zjg {va vb:AV} {a b:Rat} {k:Nat} (hva:jX va a) (hvb:jX vb b) (hk:k<=40000) (ha:Qs k a) (hb:Qs k b):Pure Tryz.prog B 114 [va,vb] (fun v=>jX v (a+b)):=by
 have sQ:=hva;have rM:=hvb;obtain ⟨s,w,s',w',rfl,i1,i2⟩:=hva;obtain ⟨t,u,t',u',rfl,j1,j2⟩:=hvb;refine yB fun h nx K H0 hK=>zP zS jA 100 fun hf => ?_;rw [qi.go,qi.t9,zA,qi.jm];refine H0.box (l:=[s,w,s',w']) rfl fun pa h1 nx1 H1 => ?_;refine H1.box (l:=[t,u,t',u']) rfl fun pb h2 nx2 H2 => ?_;refine H2.alloc fun p h3 nx3 H3 => ?_;have an:∀ op:AV->OP,zE 2 (.ptr pa (0+0)) h3 op=op (.agg [s,w]):=fun op=>H3.qf (k:=2) rfl (by simp) rfl;have ad:∀ op:AV->OP,zE 2 (.ptr pa (0+2)) h3 op=op (.agg [s',w']):=fun op=>H3.qf (k:=2) rfl (by simp) rfl;have bn:∀ op:AV->OP,zE 2 (.ptr pb (0+0)) h3 op=op (.agg [t,u]):=fun op=>H3.qf (k:=1) rfl (by simp) rfl;have bd:∀ op:AV->OP,zE 2 (.ptr pb (0+2)) h3 op=op (.agg [t',u']):=fun op=>H3.qf (k:=1) rfl (by simp) rfl;have general:∀ {x5:AV},IR.run qi.t7 (CS Tryz.prog B) 100 (fnO qi.res K) (yx qi.res K) (qi.fr (.agg [s,w,s',w']) (.agg [t,u,t',u']) (.ptr pa 0) (.ptr pb 0) (.ptr p 0) x5) h3 nx3=.ok True:=by
  intro x5;rw [qi.t7,zA,qi.mg,sFx,an,sFx,bd,sFx,bn,sFx,ad,sFx,ad,sFx,bd];refine pB ⟨_,_,rfl,i1⟩ ⟨_,_,rfl,j2⟩ (show k<=90000 by omega) ha.1 hb.2 _ _ _ _ ?_;intro v1 hv1 _;rw [bd,zG,sFx,zG,ad,zG,sFx,zG,ad,zG,sFx,zG,bn,zG,sFx,zG];refine pB ⟨_,_,rfl,j1⟩ ⟨_,_,rfl,i2⟩ (show k<=90000 by omega) hb.1 ha.2 _ _ _ _ ?_;intro v2 hv2 _;rw [bd,zG,sFx,zG,ad,zG,sFx,zG];refine zkx hv1 hv2 (show k+k<=90000 by omega) (ha.1.mul hb.2) (hb.1.mul ha.2) _ _ _ _ ?_;intro v3 hv3 _;rw [bd,zG,sFx,zG,ad,zG,sFx,zG];refine pB ⟨_,_,rfl,i2⟩ ⟨_,_,rfl,j2⟩ (show k<=90000 by omega) ha.2 hb.2 _ _ _ _ ?_;intro v4 hv4 _;refine zfk hv3 hv4 (show k+k+1<=90000 by omega) ((ha.1.mul hb.2).add (hb.1.mul ha.2)) ((ha.2.mul hb.2).mono (by omega)) (Int.mul_ne_zero (kU a) (kU b)) _ _ _ _ ?_;rintro _ ⟨s3,w3,s4,w4,rfl,i3,i4⟩ _;refine H3.jg (l2:=[s3,w3,s4,w4]) (k:=0) rfl rfl rfl fun h4 H4 => ?_;simp only [zJ,zT];rw [qi.ret,H4.zk (k:=0) (n:=4) rfl rfl];rw [zuf] at i3 i4;exact hK _ _ _ _ _ H4 (sD (i3.fix4 i4)) ⟨_,_,_,_,rfl,i3,i4⟩
 rw [zA,zA,qi.jl,H3.zk (k:=2) (n:=4) rfl rfl];refine mR sQ _ _ _ _ ?_;rintro _ rfl _;by_cases ca:a.den=1
 ·rw [Zaa ca];simp only [yN];rw [H3.zk (k:=1) (n:=4) rfl rfl,uGWt];refine mR rM _ _ _ _ ?_;rintro _ rfl _;rw [zO,zB,qi.v5];by_cases cb:b.den=1
  ·rw [Zaa cb,zD,zA,qi.qh,sFx,an,sFx,bn];refine zkx ⟨_,_,rfl,i1⟩ ⟨_,_,rfl,j1⟩ (show k<=90000 by omega) ha.1 hb.1 _ _ _ _ ?_;intro v1 hv1 _;refine zhk hv1 _ _ _ _ ?_;rintro _ ⟨s3,w3,s4,w4,rfl,i3,i4⟩ _;refine H3.jg (l2:=[s3,w3,s4,w4]) (k:=0) rfl rfl rfl fun h4 H4 => ?_;simp only [zJ,zT];rw [qi.ret,H4.zk (k:=0) (n:=4) rfl rfl];have e:((a.num+b.num:Int):Rat)=a+b:=by rw [Rat.intCast_add,zd8 ca,zd8 cb]
   rw [e] at i3 i4;exact hK _ _ _ _ _ H4 (sD (i3.fix4 i4)) ⟨_,_,_,_,rfl,i3,i4⟩
  ·rw [Zab cb,zC,zF];exact general
 ·rw [Zab ca];simp only [yM];rw [uGWf,zQ,zB,qi.v5,zC,zF];exact general
theorem Qs.neg {k:Nat} {q:Rat} (h:Qs k q):Qs k (-q):=by
 refine ⟨?_,?_⟩
 ·have:=h.1;unfold Zs at this ⊢
  rwa [Rat.neg_num,Zcy]
 ·rw [Rat.neg_den];exact h.2
theorem zug {va vb:AV} {a b:Rat} {k:Nat} (hva:jX va a) (hvb:jX vb b) (hk:k<=40000) (ha:Qs k a) (hb:Qs k b):Pure Tryz.prog B 192 [va,vb] (fun v=>jX v (a-b)):=by
 have sQ:=hva;have rM:=hvb;obtain ⟨s,w,s',w',rfl,i1,i2⟩:=hva;obtain ⟨t,u,t',u',rfl,j1,j2⟩:=hvb;refine yB fun h nx K H0 hK=>zP zS jA 100 fun hf => ?_;rw [cZ.go,cZ.t3,zA,cZ.jm];refine H0.box (l:=[s,w,s',w']) rfl fun pa h1 nx1 H1 => ?_;refine H1.box (l:=[t,u,t',u']) rfl fun pb h2 nx2 H2 => ?_;refine H2.alloc fun p h3 nx3 H3 => ?_;rw [zA,cZ.jl,H3.zk (k:=2) (n:=4) rfl rfl,H3.zk (k:=1) (n:=4) rfl rfl];refine zkz rM _ _ _ _ ?_;intro v1 hv1 _;rw [H3.zk (k:=2) (n:=4) rfl rfl,zG];refine zjg sQ hv1 hk ha hb.neg _ _ _ _ ?_;rintro _ ⟨s3,w3,s4,w4,rfl,i3,i4⟩ _;refine H3.jg (l2:=[s3,w3,s4,w4]) (k:=0) rfl rfl rfl fun h4 H4 => ?_;simp only [zJ,zT];rw [cZ.ret,H4.zk (k:=0) (n:=4) rfl rfl];rw [<- Rat.sub_eq_add_neg] at i3 i4;exact hK _ _ _ _ _ H4 (sD (i3.fix4 i4)) ⟨_,_,_,_,rfl,i3,i4⟩
theorem Qs.inv {k:Nat} {q:Rat} (h:Qs k q) (hk:1<=k):Qs k q⁻¹:=by
 have h1:(q⁻¹).num.natAbs<=q.den/\(q⁻¹).den<=max 1 q.num.natAbs:=by
  rw [Rat.inv_def];by_cases c:q.num=0
  ·rw [c];have e:Rat.divInt (q.den:Int) 0=0:=by simp
   rw [e];exact ⟨by simp,by simp⟩
  ·refine ⟨?_,?_⟩
   ·rw [Rat.num_divInt];refine Zbj (Int.natAbs_ediv_le_natAbs _ _) ?_;rw [Zed,Int.natAbs_sign_of_ne_zero c,Zbx,Zcl];exact Zah _
   ·rw [Rat.den_divInt,if_neg c];refine Zbj (Zcu _ _) ?_;omega
 have h2:1<18446744073709551616 ^ k:=Nat.one_lt_pow (by omega) (by decide);obtain ⟨a,b⟩:=h;refine ⟨?_,?_⟩
 ·unfold Zs at b ⊢;rw [Zcl] at b;omega
 ·unfold Zs at a ⊢;rw [Zcl];omega
theorem zrf {va vb:AV} {a b:Rat} {k:Nat} (hva:jX va a) (hvb:jX vb b) (hk:k<=40000) (hk1:1<=k) (ha:Qs k a) (hb:Qs k b) (h0:b≠0):Pure Tryz.prog B 115 [va,vb] (fun v=>jX v (a / b)):=by
 have sQ:=hva;have rM:=hvb;obtain ⟨s,w,s',w',rfl,i1,i2⟩:=hva;obtain ⟨t,u,t',u',rfl,j1,j2⟩:=hvb;refine yB fun h nx K H0 hK=>zP zS jA 100 fun hf => ?_;rw [fA.go,fA.t3,zA,fA.jm];refine H0.box (l:=[s,w,s',w']) rfl fun pa h1 nx1 H1 => ?_;refine H1.box (l:=[t,u,t',u']) rfl fun pb h2 nx2 H2 => ?_;refine H2.alloc fun p h3 nx3 H3 => ?_;rw [zA,fA.jl,H3.zk (k:=2) (n:=4) rfl rfl,H3.zk (k:=1) (n:=4) rfl rfl];refine zk0 rM (show k<=90000 by omega) hb h0 _ _ _ _ ?_;intro v1 hv1 _;rw [H3.zk (k:=2) (n:=4) rfl rfl,zG];refine zfl sQ hv1 hk ha (hb.inv hk1) _ _ _ _ ?_;rintro _ ⟨s3,w3,s4,w4,rfl,i3,i4⟩ _;refine H3.jg (l2:=[s3,w3,s4,w4]) (k:=0) rfl rfl rfl fun h4 H4 => ?_;simp only [zJ,zT];rw [fA.ret,H4.zk (k:=0) (n:=4) rfl rfl];rw [<- Rat.div_def] at i3 i4;exact hK _ _ _ _ _ H4 (sD (i3.fix4 i4)) ⟨_,_,_,_,rfl,i3,i4⟩
theorem zuh {va vb:AV} {a b:Rat} {k:Nat} (hva:jX va a) (hvb:jX vb b) (hk:k<=40000) (ha:Qs k a) (hb:Qs k b):Pure Tryz.prog B 200 [va,vb] (· = I (tK (a.num*(b.den:Int)-b.num*(a.den:Int)))):=by
 obtain ⟨s,w,s',w',rfl,i1,i2⟩:=hva;obtain ⟨t,u,t',u',rfl,j1,j2⟩:=hvb;refine yB fun h nx K H0 hK=>zP zS jA 100 fun hf => ?_;rw [fB.go,fB.t3,zA,fB.jm];refine H0.box (l:=[s,w,s',w']) rfl fun pa h1 nx1 H1 => ?_;refine H1.box (l:=[t,u,t',u']) rfl fun pb h3 nx3 H3 => ?_;have an:∀ op:AV->OP,zE 2 (.ptr pa (0+0)) h3 op=op (.agg [s,w]):=fun op=>H3.qf (k:=1) rfl (by simp) rfl;have ad:∀ op:AV->OP,zE 2 (.ptr pa (0+2)) h3 op=op (.agg [s',w']):=fun op=>H3.qf (k:=1) rfl (by simp) rfl;have bn:∀ op:AV->OP,zE 2 (.ptr pb (0+0)) h3 op=op (.agg [t,u]):=fun op=>H3.qf (k:=0) rfl (by simp) rfl;have bd:∀ op:AV->OP,zE 2 (.ptr pb (0+2)) h3 op=op (.agg [t',u']):=fun op=>H3.qf (k:=0) rfl (by simp) rfl;rw [zA,fB.jl,sFx,an,sFx,bd,sFx,bn,sFx,ad];refine pB ⟨_,_,rfl,i1⟩ ⟨_,_,rfl,j2⟩ (show k<=90000 by omega) ha.1 hb.2 _ _ _ _ ?_;intro v1 hv1 _;rw [ad,zG,sFx,zG,bn,zG,sFx,zG];refine pB ⟨_,_,rfl,j1⟩ ⟨_,_,rfl,i2⟩ (show k<=90000 by omega) hb.1 ha.2 _ _ _ _ ?_;intro v2 hv2 _;refine zy2 hv1 hv2 (show k+k<=90000 by omega) (ha.1.mul hb.2) (hb.1.mul ha.2) _ _ _ _ ?_;rintro _ rfl _;simp only [zJ,zT];rw [fB.ret];exact hK _ _ _ _ _ H3 (zY rfl) rfl
theorem zui {va vb:AV} {a b:Rat} {k:Nat} (hva:jX va a) (hvb:jX vb b) (hk:k<=40000) (ha:Qs k a) (hb:Qs k b):Pure Tryz.prog B 118 [va,vb] (· = .bool (decide (a=b))):=by
 have sQ:=hva;have rM:=hvb;obtain ⟨s,w,s',w',rfl,i1,i2⟩:=hva;obtain ⟨t,u,t',u',rfl,j1,j2⟩:=hvb;refine yB fun h nx K H0 hK=>zP zS jA 100 fun hf => ?_;rw [fC.go,fC.t3,zA,fC.jm];refine H0.box (l:=[s,w,s',w']) rfl fun pa h1 nx1 H1 => ?_;refine H1.box (l:=[t,u,t',u']) rfl fun pb h3 nx3 H3 => ?_;rw [zA,fC.jl,H3.zk (k:=1) (n:=4) rfl rfl,H3.zk (k:=0) (n:=4) rfl rfl];refine zuh sQ rM hk ha hb _ _ _ _ ?_;rintro _ rfl _;rw [ve];simp only [zJ,zT];rw [fC.ret];refine hK _ _ _ _ _ H3 (zY rfl) ?_
 congr 1
 refine decide_eq_decide.2 ?_;rw [zjf a b,fV];constructor <;> intro <;> omega
theorem zrg {v:AV} {q:Rat} {k:Nat} (hv:jX v q) (hk:k<=90000) (hq:Qs k q):Pure Tryz.prog B 120 [v] (fun v=>bP v (q.num / (q.den:Int))):=by
 obtain ⟨s,w,s',w',rfl,i1,i2⟩:=hv;refine yB fun h nx K H0 hK=>zP zS jA 100 fun hf => ?_;rw [pq.go,pq.t5,zA,pq.jm];refine H0.box (l:=[s,w,s',w']) rfl fun pa h1 nx1 H1 => ?_;refine H1.alloc fun p h2 nx2 H2 => ?_;have ln:∀ op:AV->OP,zE 2 (.ptr pa (0+0)) h2 op=op (.agg [s,w]):=fun op=>H2.qf (k:=1) rfl (by simp) rfl;have ld:∀ op:AV->OP,zE 2 (.ptr pa (0+2)) h2 op=op (.agg [s',w']):=fun op=>H2.qf (k:=1) rfl (by simp) rfl;rw [zA,pq.jl,sFx,ln,sFx,ld];refine mU ⟨_,_,rfl,i1⟩ ⟨_,_,rfl,i2⟩ hk hq.1 hq.2 (by have:=q.den_pos;omega) _ _ _ _ ?_;rintro _ ⟨v1,v2,rfl,⟨s3,w3,rfl,i3⟩,⟨s4,w4,rfl,i4⟩⟩ _;rw [yL,yI];refine H2.alloc fun p1 h6 nx6 H6 => ?_;refine H6.alloc fun q1 h7 nx7 H7 => ?_;refine H7.jg (l2:=[s3,w3]) (k:=1) rfl rfl rfl fun h8 H8 => ?_;refine H8.jg (l2:=[s4,w4]) (k:=0) rfl rfl rfl fun h9 H9 => ?_;rw [zA,pq.qh,H9.zk (k:=1) (n:=2) rfl rfl];refine H9.jg (l2:=[s3,w3]) (k:=2) rfl rfl rfl fun h10 H10 => ?_;simp only [zJ,zT];rw [pq.ret,H10.zk (k:=2) (n:=2) rfl rfl];exact hK _ _ _ _ _ H10 (sD i3.fix) ⟨_,_,rfl,i3⟩
theorem xQ {l c:List AV} {off:Nat} (h:off+c.length<=l.length):(gI l off c).length=l.length:=by
 unfold gI;rw [Zar,Zar,Zas,Zde];omega
theorem dY {l c:List AV} {off m:Nat} (h:off+c.length<=l.length):(gI l off c)[m]? = if off<=m/\m<off+c.length then c[m-off]? else l[m]? := by
 unfold gI;have ht:(l.take off).length=off:=by rw [Zas];omega
 by_cases h1:m<off
 ·rw [if_neg (by omega),Zbg,List.getElem?_append_left (by omega),List.getElem?_take_of_lt h1]
 ·by_cases h2:m<off+c.length
  ·rw [if_pos (by omega),Zbg,List.getElem?_append_right (by omega),ht,List.getElem?_append_left (by omega)]
  ·rw [if_neg (by omega),Zbg,List.getElem?_append_right (by omega),ht,List.getElem?_append_right (by omega),List.getElem?_drop]
   congr 1;omega
theorem Hp.tq {h0 h:T Blk} {nx:Pa} {L:List Ob} {k n off:Nat} {id:Pa} {l l2:List AV} {K:Kw Prop} (H:Hp h0 h nx L) (hk:L[k]? = some (.arr id l)) (hle:off+n<=l.length) (hl2:l2.length=n) (hK:∀ h',Hp h0 h' nx (L.set k (.arr id (gI l off l2)))->K .u h' nx=.ok True):zW n (.ptr id off) (.agg l2) h nx K=.ok True:=by
 obtain ⟨o,t,h1,h2⟩:=H.own _ (Zae hk);show qc (T.get .no id h) _ _=_;rw [h1];show (bif Nat.beq l2.length n&&Nat.ble (off+n) l.length then gU l2 t off (fun t'=>T.dm Blk.no (.cells o l.length t') id h fun h'=>K .u h' nx) else .no 42)=_;rw [oN hl2,Zaf hle];simp only [Zfu,cond_true];rw [jI,T.ji];refine hK _ (H.upd hk (by simp [Ob.names]) rfl ⟨o,_,by rw [T.get_set_same,xQ (by omega)],?_⟩);rw [xQ (by omega)];apply Zcj;intro i;rw [dY (by omega)];by_cases hi:i<l.length
 ·rw [yO _ _ _ _ hi,Zbe,uM];have hr:=yO t 0 l.length i hi;rw [h2,Zbe] at hr;by_cases hc:off<=i/\i<off+l2.length
  ·rw [if_pos hc,if_pos hc,Zac,List.getElem?_eq_getElem (by omega)];rfl
  ·rw [if_neg hc,if_neg hc];exact hr.symm
 ·rw [List.getElem?_eq_none (by simp;omega),if_neg (by omega),List.getElem?_eq_none (by omega)]
def aQ (c:List AV) (j:Nat) (x:Rat):Prop:=∃ s w s' w',(c.drop (j*4)).take 4=[s,w,s',w']/\fJ s w x.num/\fJ s' w' (x.den:Int)
def sF (c:List AV) (q:List Rat):Prop:=c.length=q.length*4/\∀ j x,q[j]? = some x->aQ c j x
theorem zww {c d:List AV} {i j:Nat} (h:∀ t,t<4->c[i+t]? = d[j+t]?):(c.drop i).take 4=(d.drop j).take 4:=by
 apply Zcj;intro t;by_cases ht:t<4
 ·rw [List.getElem?_take_of_lt ht,List.getElem?_take_of_lt ht,List.getElem?_drop,List.getElem?_drop];exact h t ht
 ·rw [List.getElem?_eq_none (by rw [Zas];omega),List.getElem?_eq_none (by rw [Zas];omega)]
theorem aQ.same {c:List AV} {j:Nat} {x:Rat} {s w s' w':AV} (hj:j*4+4<=c.length) (h1:fJ s w x.num) (h2:fJ s' w' (x.den:Int)):aQ (gI c (j*4) [s,w,s',w']) j x:=by
 refine ⟨s,w,s',w',?_,h1,h2⟩;have:[s,w,s',w']=(([s,w,s',w']:List AV).drop 0).take 4:=rfl;rw [this];refine zww fun t ht => ?_;rw [dY (by simpa using hj),if_pos ⟨by omega,by simp;omega⟩];simp
theorem aQ.other {c:List AV} {i j:Nat} {x:Rat} {s w s' w':AV} (hj:j*4+4<=c.length) (hij:i≠j) (h:aQ c i x):aQ (gI c (j*4) [s,w,s',w']) i x:=by
 obtain ⟨a,b,a',b',e,h1,h2⟩:=h;refine ⟨a,b,a',b',?_,h1,h2⟩;rw [<- e];refine zww fun t ht => ?_;rw [dY (by simpa using hj),if_neg];simp only [Zbt,List.length_nil];omega
theorem sF.put {c:List AV} {q:List Rat} {j:Nat} {x:Rat} {s w s' w':AV} (h:sF c q) (hj:j<q.length) (h1:fJ s w x.num) (h2:fJ s' w' (x.den:Int)):sF (gI c (j*4) [s,w,s',w']) (q.set j x):=by
 have hl:j*4+4<=c.length:=by rw [h.1];omega
 refine ⟨by rw [xQ (by simpa using hl),Zbp];exact h.1,fun i y hy => ?_⟩;by_cases e:i=j
 ·subst e;rw [List.getElem?_set_self hj] at hy;obtain rfl:=Option.some.inj hy;exact aQ.same hl h1 h2
 ·rw [List.getElem?_set_ne (by omega)] at hy;exact aQ.other hl e (h.2 i y hy)
theorem sF.get {c:List AV} {q:List Rat} {j:Nat} {x:Rat} (h:sF c q) (hx:q[j]? = some x):∃ cs,(c.drop (j*4)).take 4=cs/\j*4+4<=c.length/\j<q.length/\jX (.agg cs) x:=by
 obtain ⟨s,w,s',w',e,h1,h2⟩:=h.2 j x hx;have hj:=(List.getElem?_eq_some_iff.1 hx).1;exact ⟨_,e,by rw [h.1];omega,hj,s,w,s',w',rfl,h1,h2⟩
abbrev rwV (n:Nat) (r:Pa):AV:=.sl r 0 n (some n) 4
theorem rwIx {r:Pa} {n j:Nat} {z:Int} {op:AV->OP} (hz:z=(j:Int)) (hj:j<n):zL 4 (rwV n r) (I z) op=op (.ptr r (j*4)):=by
 subst hz;rw [wT hj,Zbe]
theorem zwx {n j:Nat} {l:List AV} {z:Int} {op:AV->OP} (hz:z=(j:Int)) (hj:j<n):zL 4 (.lst 4 n l) (I z) op=op (.fp (l.drop (j*4))):=bH hz hj
theorem rat0:((0:Int):Rat)=0:=rfl
theorem rat1:((1:Int):Rat)=1:=rfl
theorem zrh (n:Nat) (z:List AV):(bK n z).length=n*z.length:=by
 induction n with
 | zero=>show ([]:List AV).length=_;rw [Zec];rfl
 | succ n ih=>show (z++bK n z).length=_;rw [Zar,ih,Zam,Zbx,Zcs]
theorem zhl {h0 h:T Blk} {nx p:Pa} {L:List Ob} {n:Nat} {K:Kw Prop} (H:Hp h0 h nx L) (hn:n<=1000) (hK:∀ id c h' nx',sF c (List.replicate n 0)->Hp h0 h' nx' (.arr id c::L)->K (rwV n id) h' nx'=.ok True):(CS Tryz.prog B).fn 105 p [I (n:Int)] h nx K=.ok True:=by
 refine zP zS jA 2000 fun hf => ?_;rw [gq.go,gq.t20,zA,gq.jm,zA,gq.jl];refine H.mkN (n:=n) (c:=n) rfl rfl (Zah _) (by omega) (by omega) fun id h1 nx1 H1 => ?_;rw [zA,zA,gq.qh,yX,zM];refine gq.znr (fun m x5 h' nx'=>∃ (i:Nat) (c:List AV),x5=I (i:Int)/\m+i=n/\c.length=n*4/\(∀ j,j<i->aQ c j 0)/\Hp h0 h' nx' (.arr id c::L)) (m:=n) (by omega) ⟨0,_,rfl,rfl,zrh _ _,fun j hj=>by omega,H1⟩ ?_;rintro m z3 z5 z6 h3 nx3 R ⟨i,c,rfl,hm,hc,hall,H3⟩ hR;rw [gq.t12,zA,gq.rC,ug,zA,zB,gq.v6];by_cases ci:i<n
 ·rw [Zaa (by omega),zD,zF,zA,zM,zA,gq.bJ,gq.mg];refine f89 (by omega) _ _ _ _ ?_;rintro _ ⟨s,w,s',w',rfl,i1,i2⟩ _;rw [rat0] at i1 i2;rw [rwIx (j:=i) rfl ci];refine H3.tq (k:=0) (off:=i*4) rfl (by omega) rfl fun h4 H4 => ?_;rw [gq.ay,jy (by omega)];refine hR (m-1) _ _ _ _ _ (by omega) ⟨i+1,_,by congr 1,by omega,by rw [xQ (by simp;omega)];exact hc,fun j hj => ?_,H4⟩;by_cases e:j=i
  ·subst e;exact aQ.same (by omega) i1 i2
  ·exact aQ.other (by omega) e (hall j (by omega))
 ·rw [Zab (by omega),zC,zZ,yH,zA,gq.ru];simp only [zJ,zT];rw [gq.ret];refine hK id c _ _ ⟨by rw [Zbi];exact hc,fun j x hx => ?_⟩ H3;have hj:=(List.getElem?_eq_some_iff.1 hx).1;rw [Zbi] at hj;rw [List.getElem?_replicate,if_pos hj] at hx;obtain rfl:=Option.some.inj hx;exact hall j (by omega)
def sS (n:Nat) (l:List Int):List Rat:=l.foldl (fun q c=>q.set c.toNat 1) (List.replicate n 0)
theorem zd9 (n:Nat) (l:List Int) (c:Int):sS n (l++[c])=(sS n l).set c.toNat 1:=by unfold sS;rw [Zfb];rfl
theorem dR:∀ (l:List Int) (q:List Rat),(l.foldl (fun q c=>q.set c.toNat 1) q).length=q.length
 | [],_=>rfl
 | c::l,q=>by rw [Zdn,dR l,Zbp]
theorem gF (n:Nat) (l:List Int):(sS n l).length=n:=by unfold sS;rw [dR,Zbi]
theorem pP {h0 h:T Blk} {nx p:Pa} {L:List Ob} {n:Nat} {l:List Int} {K:Kw Prop} (H:Hp h0 h nx L) (hn:n<=1000) (hl:l.length<=1000) (hr:∀ c∈l,0<=c/\c<(n:Int)) (hK:∀ id c h' nx',sF c (sS n l)->Hp h0 h' nx' (.arr id c::L)->K (rwV n id) h' nx'=.ok True):(CS Tryz.prog B).fn 104 p [I (n:Int),encI l] h nx K=.ok True:=by
 refine zP zS jA 2000 fun hf => ?_;rw [gm.go,gm.t20,zA,gm.jm,zA,gm.jl];refine zhl H hn fun id c h1 nx1 hc H1 => ?_;rw [zA,zA,gm.qh,zX,zM];refine gm.znr (fun m x7 h' nx'=>∃ (i:Nat) (c:List AV),x7=I (i:Int)/\m+i=l.length/\sF c (sS n (l.take i))/\Hp h0 h' nx' (.arr id c::L)) (m:=l.length) (by omega) ⟨0,c,rfl,rfl,hc,H1⟩ ?_;rintro m z4 z7 z8 h3 nx3 R ⟨i,c,rfl,hm,hc,H3⟩ hR;rw [gm.t12,zA,gm.rC,ug,zA,zB,gm.v8];by_cases ci:i<l.length
 ·have hx:l[i]? = some l[i]:=List.getElem?_eq_getElem ci;have hb:=hr _ (Zay ci);rw [Zaa (by omega),zD,zF,zA,zM,zA,gm.bJ,bH rfl ci,ldL (rJ hx),gm.mg];refine f89 (by omega) _ _ _ _ ?_;rintro _ ⟨s,w,s',w',rfl,i1,i2⟩ _;rw [rat1] at i1 i2;have hcl:=hc.1;rw [gF] at hcl;rw [rwIx (j:=l[i].toNat) (by omega) (by omega)];refine H3.tq (k:=0) (off:=l[i].toNat*4) rfl (by omega) rfl fun h4 H4 => ?_;rw [gm.ay,jy (by omega)];refine hR (m-1) _ _ _ _ _ (by omega) ⟨i+1,_,by congr 1,by omega,?_,H4⟩;rw [Zan,hx,Zcm,zd9];exact hc.put (by rw [gF];omega) i1 i2
 ·rw [Zab (by omega),zC,zZ,yH,zA,gm.ru];simp only [zJ,zT];rw [gm.ret];rw [Zad (by omega)] at hc;exact hK id c _ _ hc H3
def uF (b:Rat) (r o:List Rat):List Rat:=List.zipWith (fun x y=>x-b*y) r o
theorem pget {l e:List Rat} {c:Nat} {q:Rat} (hle:e.length=l.length) (hq:l[c]? = some q):(e.take c++l.drop c)[c]? = some q:=by
 have hc:=(List.getElem?_eq_some_iff.1 hq).1;rw [List.getElem?_append_right (by rw [Zas];omega),Zas,List.getElem?_drop,show c+(c-min c e.length)=c by omega];exact hq
theorem zwy {l e:List Rat} {c:Nat} {q:Rat} (hle:e.length=l.length) (hq:e[c]? = some q):(e.take c++l.drop c).set c q=e.take (c+1)++l.drop (c+1):=by
 have hc:=(List.getElem?_eq_some_iff.1 hq).1;rw [Zax (show c<l.length by omega),gN (by rw [Zas];omega),Zan,hq];simp
theorem zwz {l e:List Rat} {c:Nat} {q:Rat} (hle:e.length=l.length) (hq:e[c]? = some q) (hl:l[c]? = some q):e.take c++l.drop c=e.take (c+1)++l.drop (c+1):=by
 have hc:=(List.getElem?_eq_some_iff.1 hq).1;have h1:l[c]'(by omega)=q:=by rw [List.getElem?_eq_getElem (by omega)] at hl;exact Option.some.inj hl
 rw [Zax (show c<l.length by omega),Zan,hq,h1];simp
theorem zfm {h0 h:T Blk} {nx p r o:Pa} {L:List Ob} {kr ko k n:Nat} {cr co:List AV} {qr qo:List Rat} {v:AV} {b:Rat} {K:Kw Prop} (H:Hp h0 h nx L) (hkr:L[kr]? = some (.arr r cr)) (hko:L[ko]? = some (.arr o co)) (hne:ko≠kr) (hr:sF cr qr) (ho:sF co qo) (hlr:qr.length=n) (hlo:qo.length=n) (hn:n<=1000) (hv:jX v b) (hk:k<=40000) (hb:Qs k b) (hqr:∀ x∈qr,Qs k x) (hqo:∀ x∈qo,Qs k x) (hqp:∀ x∈qo,Qs k (b*x))
  (hK:∀ c h' nx',sF c (uF b qr qo)->Hp h0 h' nx' (L.set kr (.arr r c))->K (.tup []) h' nx'=.ok True):(CS Tryz.prog B).fn 106 p [rwV n r,v,rwV n o] h nx K=.ok True:=by
 refine zP zS jA 2000 fun hf => ?_;obtain ⟨sb,wb,sb',wb',rfl,b1,b2⟩:=hv;have hkl:=(List.getElem?_eq_some_iff.1 hkr).1;have hE:(uF b qr qo).length=qr.length:=by unfold uF;rw [Zel];omega
 rw [gy.go,gy.t18,zA,gy.jm];refine H.box (l:=[sb,wb,sb',wb']) rfl fun bb h1 nx1 H1 => ?_;rw [zA,gy.jl,yX,zM]
 refine gy.zns (fun m x8 h' nx'=>∃ (i:Nat) (c:List AV),x8=I (i:Int)/\m+i=n/\sF c ((uF b qr qo).take i++qr.drop i)/\Hp h0 h' nx' (.arr bb [sb,wb,sb',wb']::L.set kr (.arr r c))) (m:=n) (by omega) ⟨0,cr,rfl,rfl,by rw [Zee,Zco,Zdt];exact hr,by
  have:L.set kr (.arr r cr)=L:=by
   rw [List.getElem?_eq_getElem hkl] at hkr;rw [<- Option.some.inj hkr,List.set_getElem_self]
  rw [this];exact H1⟩ ?_
 rintro m z4 z5 z8 z9 z10 h3 nx3 R ⟨i,c,rfl,hm,hc,H3⟩ hR;rw [gy.t14,zA,gy.qh,ug,zA,zB,gy.v9];by_cases ci:i<n
 ·have hx:qo[i]? = some qo[i]:=List.getElem?_eq_getElem (by omega);have hy:qr[i]? = some qr[i]:=List.getElem?_eq_getElem (by omega);have hz:(uF b qr qo)[i]? = some (qr[i]-b*qo[i]):=by unfold uF;rw [List.getElem?_zipWith,hy,hx]
  have mo:=Zay (l:=qo) (n:=i) (by omega);have mr:=Zay (l:=qr) (n:=i) (by omega);obtain ⟨cs,e1,e2,_,fo⟩:=ho.get hx;obtain ⟨cs2,e3,e4,hcj,fr⟩:=hc.get (pget hE hy);have hko3:(Ob.arr bb [sb,wb,sb',wb']::L.set kr (.arr r c))[ko+1]? = some (.arr o co):=by
   show (L.set kr (.arr r c))[ko]? = _;rw [List.getElem?_set_ne (by omega)];exact hko
  have hkr3:(Ob.arr bb [sb,wb,sb',wb']::L.set kr (.arr r c))[kr+1]? = some (.arr r c):=by
   show (L.set kr (.arr r c))[kr]? = _;rw [List.getElem?_set_self hkl]
  obtain ⟨so,wo,so',wo',e5,o1,o2⟩:=fo;obtain rfl:=AV.agg.inj e5;rw [Zaa (by omega),zD,zF,zA,zM,zA,gy.rD,rwIx (j:=i) rfl ci,H3.qf hko3 e2 e1];refine H3.alloc fun xb h4 nx4 H4 => ?_;refine H4.jg (l2:=[so,wo,so',wo']) (k:=0) rfl rfl rfl fun h5 H5 => ?_;rw [zA,gy.bJ,H5.zk (k:=0) (n:=4) rfl rfl];refine pR ⟨_,_,_,_,rfl,o1,o2⟩ _ _ _ _ ?_;rintro _ rfl _;rw [vk,zB,gy.v10];by_cases d:qo[i]=0
  ·have d2:qr[i]-b*qo[i]=qr[i]:=by rw [d,Zex,Rat.sub_eq_add_neg,Rat.neg_zero,Rat.add_zero]
   rw [Zaa (fV.2 (Rat.num_eq_zero.2 d)),Zag,zC,zF,gy.fZ,jy (by omega)];rw [d2] at hz;exact hR (m-1) _ _ _ _ _ _ _ (by omega) ⟨i+1,c,by congr 1,by omega,by rw [<- zwz hE hz hy];exact hc,H5.drop⟩
  ·rw [Zab (fun q=>d (Rat.num_eq_zero.1 (fV.1 q))),Zaj,zD,gy.mg];have lr:∀ op:AV->OP,zE 4 (.ptr r (i*4)) h5 op=op (.agg cs2):=fun op=>H5.qf (k:=kr+2) hkr3 e4 e3;have lb:∀ op:AV->OP,zE 4 (.ptr bb 0) h5 op=op (.agg [sb,wb,sb',wb']):=fun op=>H5.zk (k:=1) (n:=4) rfl rfl;have lx:∀ op:AV->OP,zE 4 (.ptr xb 0) h5 op=op (.agg [so,wo,so',wo']):=fun op=>H5.zk (k:=0) (n:=4) rfl rfl;have ix:∀ op:AV->OP,zL 4 (rwV n r) (I (i:Int)) op=op (.ptr r (i*4)):=fun op=>rwIx (j:=i) rfl ci;simp only [ix,lr,lb,lx];refine zfl ⟨_,_,_,_,rfl,b1,b2⟩ ⟨_,_,_,_,rfl,o1,o2⟩ hk hb (hqo _ mo) _ _ _ _ ?_;rintro v5 f5 _;simp only [lr,zG];refine zug fr f5 hk (hqr _ mr) (hqp _ mo) _ _ _ _ ?_;rintro _ ⟨s6,w6,s6',w6',rfl,i1,i2⟩ _;refine H5.tq (k:=kr+2) (off:=i*4) hkr3 e4 rfl fun h6 H6 => ?_;rw [gy.fZ,jy (by omega)];refine hR (m-1) _ _ _ _ _ _ _ (by omega) ⟨i+1,gI c (i*4) [s6,w6,s6',w6'],by congr 1,by omega,?_,?_⟩
   ·rw [<- zwy hE hz];exact hc.put hcj i1 i2
   ·exact (H6.cast (show ((Ob.arr xb [I 0,.zf,I 0,.zf]::Ob.arr bb [sb,wb,sb',wb']::L.set kr (.arr r c)).set 0 (Ob.arr xb [so,wo,so',wo'])).set (kr+2) (.arr r (gI c (i*4) [s6,w6,s6',w6']))=Ob.arr xb [so,wo,so',wo']::Ob.arr bb [sb,wb,sb',wb']::L.set kr (.arr r (gI c (i*4) [s6,w6,s6',w6'])) by
     show Ob.arr xb _::Ob.arr bb _::(L.set kr (.arr r c)).set kr _=_;rw [List.set_set])).drop
 ·rw [Zab (by omega),zC,zZ,yH];rw [gy.ret];rw [Zad (by omega),Zby (by omega),Zce] at hc;exact hK c _ _ hc H3.drop
def uI (b:Rat) (r:List Rat):List Rat:=r.map fun x=>x*b
theorem zri {h0 h:T Blk} {nx p r:Pa} {L:List Ob} {kr k n:Nat} {cr:List AV} {qr:List Rat} {v:AV} {b:Rat} {K:Kw Prop} (H:Hp h0 h nx L) (hkr:L[kr]? = some (.arr r cr)) (hr:sF cr qr) (hlr:qr.length=n) (hn:n<=1000) (hv:jX v b) (hk:k<=40000) (hb:Qs k b) (hqr:∀ x∈qr,Qs k x)
  (hK:∀ c h' nx',sF c (uI b qr)->Hp h0 h' nx' (L.set kr (.arr r c))->K (.tup []) h' nx'=.ok True):(CS Tryz.prog B).fn 111 p [rwV n r,v] h nx K=.ok True:=by
 refine zP zS jA 2000 fun hf => ?_;obtain ⟨sb,wb,sb',wb',rfl,b1,b2⟩:=hv;have hkl:=(List.getElem?_eq_some_iff.1 hkr).1;have hE:(uI b qr).length=qr.length:=by unfold uI;rw [Zaz]
 rw [uf.go,uf.t18,zA,uf.jm];refine H.box (l:=[sb,wb,sb',wb']) rfl fun bb h1 nx1 H1 => ?_;rw [zA,uf.jl,yX,zM]
 refine uf.zns (fun m x7 h' nx'=>∃ (i:Nat) (c:List AV),x7=I (i:Int)/\m+i=n/\sF c ((uI b qr).take i++qr.drop i)/\Hp h0 h' nx' (.arr bb [sb,wb,sb',wb']::L.set kr (.arr r c))) (m:=n) (by omega) ⟨0,cr,rfl,rfl,by rw [Zee,Zco,Zdt];exact hr,by
  have:L.set kr (.arr r cr)=L:=by
   rw [List.getElem?_eq_getElem hkl] at hkr;rw [<- Option.some.inj hkr,List.set_getElem_self]
  rw [this];exact H1⟩ ?_
 rintro m z3 z4 z7 z8 z9 h3 nx3 R ⟨i,c,rfl,hm,hc,H3⟩ hR;rw [uf.t14,zA,uf.qh,ug,zA,zB,uf.v8];by_cases ci:i<n
 ·have hy:qr[i]? = some qr[i]:=List.getElem?_eq_getElem (by omega);have hz:(uI b qr)[i]? = some (qr[i]*b):=by unfold uI;rw [List.getElem?_map,hy];rfl
  have mr:=Zay (l:=qr) (n:=i) (by omega);obtain ⟨cs2,e3,e4,hcj,fr⟩:=hc.get (pget hE hy);have hkr3:(Ob.arr bb [sb,wb,sb',wb']::L.set kr (.arr r c))[kr+1]? = some (.arr r c):=by
   show (L.set kr (.arr r c))[kr]? = _;rw [List.getElem?_set_self hkl]
  obtain ⟨so,wo,so',wo',e5,o1,o2⟩:=fr;obtain rfl:=AV.agg.inj e5;rw [Zaa (by omega),zD,zF,zA,zM,zA,uf.rD,rwIx (j:=i) rfl ci,H3.qf hkr3 e4 e3];refine H3.alloc fun xb h4 nx4 H4 => ?_;refine H4.jg (l2:=[so,wo,so',wo']) (k:=0) rfl rfl rfl fun h5 H5 => ?_;rw [zA,uf.bJ,H5.zk (k:=0) (n:=4) rfl rfl];refine pR ⟨_,_,_,_,rfl,o1,o2⟩ _ _ _ _ ?_;rintro _ rfl _;rw [vk,zB,uf.v9];by_cases d:qr[i]=0
  ·have d2:qr[i]*b=qr[i]:=by rw [d,Rat.zero_mul]
   rw [Zaa (fV.2 (Rat.num_eq_zero.2 d)),Zag,zC,zF,uf.fZ,jy (by omega)];rw [d2] at hz;exact hR (m-1) _ _ _ _ _ _ _ (by omega) ⟨i+1,c,by congr 1,by omega,by rw [<- zwz hE hz hy];exact hc,H5.drop⟩
  ·rw [Zab (fun q=>d (Rat.num_eq_zero.1 (fV.1 q))),Zaj,zD,uf.mg,H5.zk (k:=0) (n:=4) rfl rfl,H5.zk (k:=1) (n:=4) rfl rfl];refine zfl ⟨_,_,_,_,rfl,o1,o2⟩ ⟨_,_,_,_,rfl,b1,b2⟩ hk (hqr _ mr) hb _ _ _ _ ?_;rintro _ ⟨s6,w6,s6',w6',rfl,i1,i2⟩ _;rw [rwIx (j:=i) rfl ci];refine H5.tq (k:=kr+2) (off:=i*4) hkr3 e4 rfl fun h6 H6 => ?_;rw [uf.fZ,jy (by omega)];refine hR (m-1) _ _ _ _ _ _ _ (by omega) ⟨i+1,gI c (i*4) [s6,w6,s6',w6'],by congr 1,by omega,?_,?_⟩
   ·rw [<- zwy hE hz];exact hc.put hcj i1 i2
   ·exact (H6.cast (show ((Ob.arr xb [I 0,.zf,I 0,.zf]::Ob.arr bb [sb,wb,sb',wb']::L.set kr (.arr r c)).set 0 (Ob.arr xb [so,wo,so',wo'])).set (kr+2) (.arr r (gI c (i*4) [s6,w6,s6',w6']))=Ob.arr xb [so,wo,so',wo']::Ob.arr bb [sb,wb,sb',wb']::L.set kr (.arr r (gI c (i*4) [s6,w6,s6',w6'])) by
     show Ob.arr xb _::Ob.arr bb _::(L.set kr (.arr r c)).set kr _=_;rw [List.set_set])).drop
 ·rw [Zab (by omega),zC,zZ,yH];rw [uf.ret];rw [Zad (by omega),Zby (by omega),Zce] at hc;exact hK c _ _ hc H3.drop
end Go.Ev
