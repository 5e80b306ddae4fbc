import Derived.Test.YtfgpjkchdelphaaGreatDoorEvC
import Derived.Test.YtfgpjkchdelphaaGreatDoorLaws
import Derived.Test.YtfgpjkchdelphaaGreatDoorIrT
import Derived.Test.YtfgpjkchdelphaaGreatDoorEvD
import Derived.KernelRfl
import Derived.Test.YtfgpjkchdelphaaGreatDoorCodea
set_option linter.unusedSimpArgs false
set_option linter.unusedVariables false
noncomputable section
namespace Go.Ev
open Go Go.Proofs Go.RowKit
def bS:List AV->Option (List (List UInt8))
 | []=>some []
 | .str s::l=>match bS l with
  | some xs=>some (s::xs)
  | none=>none
 | _=>none
def zxd (l:List AV) (sep:List UInt8):Option AV:=match bS l with
 | some xs=>bif Nat.ble (Lib.join xs sep).length 100000 then some (.str (Lib.join xs sep)) else none
 | none=>none
def zxe (cap:Option Nat) (ln:Nat):Bool:=match cap with
 | some k=>Nat.ble ln k
 | none=>true
def zre (v:AV) (sep:List UInt8) (h:T Blk):Option AV:=match v with
 | .sl id off ln cap esz=>match T.get .no id h with
  | .cells _ m t=>bif Nat.beq esz 1&&Nat.ble (off+ln) m&&Nat.ble ln 100000&&zxe cap ln then zxd (yX t off ln) sep else none
  | _=>none
 | .ze=>some (.str [])
 | _=>none
def zg6 (f:Nat) (args:List AV) (h:T Blk):Option (AV×T Blk):=bif Nat.beq f 281 then (match args with
 | [v,.str sep]=>match zre v sep h with
  | some v=>some (v,h)
  | none=>none
 | _=>none) else none
theorem zg8:∀ {l:List AV} {xs:List (List UInt8)},bS l=some xs->l=xs.map .str
 | [],xs,h=>by simp [bS] at h;subst h;rfl
 | x::l,xs,h=>by
  cases x <;> first | (simp [bS] at h;done) | skip
  simp only [bS] at h;cases hl:bS l with
  | none=>simp [hl] at h
  | some ys=>simp [hl] at h;subst h;simp [zg8 hl]
theorem HR.below {P:Program} {B:Nat} {E:Env} {h:T Blk} {nx:Pa} {w w':World} (H:HR P B E h nx w) (hb:Below w.heap.size w w'):HR P B E h nx w'/\Ex E E w w':=by
 refine ⟨{
  blk:=λid hid=>by
   obtain ⟨b,n,o,q1,q2,q3⟩:=H.blk id hid;exact ⟨b,n,o,q1,by rw [hb.block b (H.lt _ _ _ q1).2];exact q2,q3⟩
  inj:=H.inj
  fresh:=H.fresh
  lt:=λid b n hid=>⟨(H.lt id b n hid).1,Zdi (H.lt id b n hid).2 hb.size⟩
  base:=Zbe H.base hb.size
  frz:=λb i v hf=>by
   obtain ⟨⟨c,ty,fr,q1,q2⟩,q3⟩:=H.frz b i v hf;exact ⟨⟨c,ty,fr,by rw [hb.block b (Array.getElem?_eq_some_iff.1 q1).1];exact q1,q2⟩,q3⟩ },?_⟩
 exact ⟨.refl _,hb.os,hb.tape,hb.output,hb.size,λb hlt _=>hb.block b hlt,λid b n hid=>.inr ⟨id,n,hid⟩,λ_ _ v h=>.inr (.inl ⟨v,h⟩),λb L hL=>⟨L,by rw [hb.block b (Array.getElem?_eq_some_iff.1 hL).1];exact hL,.refl _⟩⟩
theorem zb0 {B:Nat}:JOk Tryz.prog B zg6:=by
 intro E h nx w f args vs v h2 H hv hj;unfold zg6 at hj;cases hf:Nat.beq f 281 with
 | false=>simp [hf] at hj
 | true =>
  obtain rfl:=yQ hf;rw [hf,cond_true] at hj;split at hj
  case h_2=>cases hj
  rename_i _ x sep;cases hjj:zre x sep h with
  | none=>simp [hjj] at hj
  | some v0 =>
  simp only [hjj,Option.some.injEq,Prod.mk.injEq] at hj;obtain ⟨rfl,rfl⟩:=hj;have hj:=hjj
  clear hjj
  refine ⟨(),trivial,trivial,trivial,λn=>.inl ⟨_,Tryz.func281,by kernel_rfl,by kernel_rfl,callsIn_wide.2 ?_⟩⟩;obtain ⟨l⟩:=vs;simp only [VRL] at hv;obtain ⟨u,_,rfl,hu,s,_,rfl,hs,rfl⟩:=hv;simp only [VR] at hs;subst hs
  have fin:∀ (xs:List (List UInt8)) (w':World) (e:Ending),v0=.str (Lib.join xs sep)->e=.returned (.string ⟨(Lib.join ((xs.map λs=>(⟨s.toArray⟩:ByteArray)).map (·.data.toList)) (⟨sep.toArray⟩:ByteArray).data.toList).toArray⟩)->Below w.heap.size w w' ->
    ∃ u E',e=.returned u/\VR E' v0 u/\HR Tryz.prog B E' h nx w'/\Ex E E' w w':=by
   intro xs w' e hve he hb;obtain ⟨h1,h2⟩:=H.below hb;refine ⟨_,E,he,?_,h1,h2⟩;rw [hve];simp only [VR,List.map_map]
   congr 2
   have:(xs.map ((λx=>x.data.toList) ∘ λs=>(⟨s.toArray⟩:ByteArray)))=xs:=by
    conv=>rhs;rw [<- List.map_id xs]
    exact Zex λ_ _=>rfl
   rw [this]
  unfold zre at hj;split at hj
  .rename_i id off ln cap esz;split at hj
   .rename_i op m t hb;cases hq:(Nat.beq esz 1&&Nat.ble (off+ln) m&&Nat.ble ln 100000&&zxe cap ln) with
    | false=>simp [hq] at hj
    | true =>
     rw [hq,cond_true] at hj;simp only [Zai] at hq;obtain ⟨⟨⟨q1,q2⟩,q3⟩,q4⟩:=hq;obtain rfl:=yQ q1;have q2:=yG q2;have q3:=yG q3;unfold zxd at hj;cases hx:bS (yX t off ln) with
     | none=>simp [hx] at hj
     | some xs =>
      simp only [hx] at hj;cases hl:Nat.ble (Lib.join xs sep).length 100000 with
      | false=>simp [hl] at hj
      | true =>
       rw [hl,cond_true] at hj;have hl:=yG hl;obtain rfl:=(Option.some.inj hj).symm;have hxs:=zg8 hx;have hln:xs.length=ln:=by
        have:=congrArg List.length hxs;simpa using this.symm
       obtain ⟨b,n,c,hE,rfl,hcap⟩:=hu.ay;obtain ⟨b',n',o,h1,h2,h3⟩:=H.blk id (by rw [hb];intro e;cases e);rw [hE] at h1;cases h1;rw [hb] at h3;obtain ⟨cs,ty,fr,rfl,_,_,_,_,hc⟩:=h3
       have hjn:=Tryz.strings_Join b off c (xs.map λs=>(⟨s.toArray⟩:ByteArray)) ⟨sep.toArray⟩ w (by
        intro j x hx2;rw [List.getElem?_map] at hx2;cases hxj:xs[j]? with
        | none=>simp [hxj] at hx2
        | some s =>
         simp [hxj] at hx2;subst hx2;have hjl:j<ln:=by rw [<- hln];exact (List.getElem?_eq_some_iff.1 hxj).1
         obtain ⟨_,v',g1,g2⟩:=hc (off+j) (by omega);have he:T.get .u (.of (off+j)) t=.str s:=by
          have e1:=yR t off ln j hjl;rw [hxs] at e1;simp [hxj] at e1;exact e1.symm
         rw [he] at g2;simp only [VR] at g2;subst g2
         simp [World.cell?,h2,g1]) (H.lt _ _ _ hE).2 (by simp;omega) (by
          simp only [Zal,hln];cases cap with
          | none=>exact hcap.1
          | some k =>
           have h4:ln<=k:=yG q4;have h5:c=k:=hcap;omega) (by
          have:((xs.map λs=>(⟨s.toArray⟩:ByteArray)).map (·.data.toList))=xs:=by
           rw [List.map_map]
           conv=>rhs;rw [<- List.map_id xs]
           exact Zex λ_ _=>rfl
          rw [this];show (Lib.join xs sep).length<=_;omega)
       rw [Zal,hln] at hjn;exact hjn.mono λe w' ⟨he,hb⟩=>fin xs w' e rfl he hb
   .cases hj
  .obtain rfl:=(Option.some.inj hj).symm;simp only [VR] at hu;subst hu;exact (Tryz.strings_Join_none none 0 _ w).mono λe w' ⟨he,hb⟩=>fin [] w' e rfl he (hb ▸ Below.refl _ _)
  .cases hj
end Go.Ev
namespace Go.Ev
open Go Go.Proofs
def zjm (J:Nat->List AV->T Blk->Option (AV×T Blk)) (f:Nat) (args:List AV) (res:AV):Bool:=match (vZ (λ_=>false) J tbl 1000 60).fn f (.of f) args .e .z endK with
 | .ok v=>eY v res
 | .no _=>false
theorem zg7 {J:Nat->List AV->T Blk->Option (AV×T Blk)} {f:Nat} {args:List AV} {res:AV} {B:Nat} (hJ:∀ B,JOk Tryz.prog B J) (ha:nns args=true) (h:zjm J f args res=true):Pure Tryz.prog B f args (· = res):=by
 unfold zjm at h;cases hq:(vZ (λ_=>false) J tbl 1000 60).fn f (.of f) args .e .z endK with
 | no n=>rw [hq] at h;cases h
 | ok v =>
  rw [hq] at h;have e:=xZ h;subst e;exact jB zQ mixed hJ ha hq
end Go.Ev
namespace Go.Ev
def bv (b:Nat):List Nat->Nat
 | []=>0
 | x::l=>x+b*bv b l
theorem uO (b:Nat):∀ l m:List Nat,bv b (l++m)=bv b l+b ^ l.length*bv b m
 | [],m=>by simp [bv]
 | x::l,m=>by
  rw [Zbw,bv,uO b l m,bv,Zbm,Zbr,Zbf,Zcr,Zax (b ^ l.length) b,Zbc]
theorem uG (b:Nat) (l:List Nat) (x:Nat):bv b (l++[x])=bv b l+b ^ l.length*x:=by
 rw [uO];simp [bv]
def Dg (b:Nat) (l:List Nat):Prop:=∀ x∈l,x<b
theorem vE {b:Nat} (hb:0<b):∀ {l:List Nat},Dg b l->bv b l<b ^ l.length
 | [],_=>by simp [bv]
 | x::l,h=>by
  have h1:=vE hb (l:=l) λy hy=>h y (by simp [hy]);have h2:=h x (by simp);rw [bv,Zbm,Zbr,Zax (b ^ l.length) b];have h3:b*(bv b l+1)<=b*b ^ l.length:=Zbd b h1;rw [Zbf,Zbo] at h3;omega
def Nm (l:List Nat):Prop:=l.getLast? ≠ some 0
def dg (b:Nat) (z:Nat):List Nat:=if h:z=0\/b<2 then [] else z%b::dg b (z / b)
termination_by z
decreasing_by
 have h1:z≠0:=λq=>h (.inl q);have h2:¬ b<2:=λq=>h (.inr q);exact Nat.div_lt_self (Zff h1) (by omega)
theorem j3 (b:Nat):dg b 0=[]:=by rw [dg];simp
theorem uV {b z:Nat} (hb:2<=b) (hz:z≠0):dg b z=z%b::dg b (z / b):=by
 rw [dg,dif_neg (by omega)]
theorem gL {b:Nat} (hb:2<=b) (z:Nat):bv b (dg b z)=z/\Dg b (dg b z)/\Nm (dg b z):=by
 induction z using Nat.strongRecOn with
 | ind z ih =>
  by_cases hz:z=0
  .subst hz;rw [j3];exact ⟨rfl,λx hx=>by simp at hx,by simp [Nm]⟩
  .obtain ⟨h1,h2,h3⟩:=ih (z / b) (Nat.div_lt_self (Zff hz) (by omega));rw [uV hb hz];refine ⟨?_,?_,?_⟩
   .rw [bv,h1];exact Zej z b
   .intro x hx;rcases List.mem_cons.1 hx with rfl | hx
    .exact Zby _ (by omega)
    .exact h2 x hx
   .unfold Nm at *
    by_cases hd:z / b=0
    .rw [hd,j3];have:z<b:=by
      rcases Nat.div_eq_zero_iff.1 hd with q | q
      .omega
      .exact q
     simp [Zbs this];exact hz
    .rw [uV hb hd] at h3 ⊢;rw [List.getLast?_cons_cons];exact h3
theorem bO {b:Nat} (hb:2<=b):∀ {l:List Nat},Dg b l->Nm l->l=dg b (bv b l)
 | [],_,_=>by rw [bv,j3]
 | x::l,h,hn=>by
  have hx:=h x (by simp);have hl:Dg b l:=λy hy=>h y (by simp [hy]);have hnl:Nm l:=by
   unfold Nm at *
   cases l with
   | nil=>simp
   | cons y l=>rw [List.getLast?_cons_cons] at hn;exact hn
  have ih:=bO hb hl hnl;have hz:bv b (x::l)≠0:=by
   rw [bv];intro q;have hx0:x=0:=by omega
   have hv:bv b l=0:=by
    have:b*bv b l=0:=by omega
    rcases Nat.mul_eq_zero.1 this with q | q
    .omega
    .exact q
   rw [hv,j3] at ih;subst ih;subst hx0;simp [Nm] at hn
  rw [uV hb hz,bv];have e1:(x+b*bv b l)%b=x:=by rw [Nat.add_mul_mod_self_left,Zbs hx]
  have e2:(x+b*bv b l) / b=bv b l:=by rw [Nat.add_mul_div_left _ _ (by omega),Zft hx,Zbi]
  rw [e1,e2,<- ih]
theorem zg9 {b x y c:Nat} (hx:x<b) (hy:y<b) (hc:c<=1):(x+y+c) / b<=1:=by
 have:(x+y+c) / b<2:=Zdx (by omega);omega
theorem qJ {b:Nat} {l:List Nat} {i x:Nat} (h:l[i]? = some x):bv b (l.take (i+1))=bv b (l.take i)+b ^ i*x:=by
 have hi:i<l.length:=(List.getElem?_eq_some_iff.1 h).1;rw [Zar,h];show bv b (l.take i++[x])=_;rw [uG,Zan,Zbu (by omega)]
theorem zzc {b P U V u1 u0 ul v1 v2 vl q r:Nat} (hU:U=(u1*b+u0)*P+ul) (hul:ul<P) (hV:V=(v1*b+v2)*P+vl)
  (hr:q*v1+r=u1) (h:r*b+u0<q*v2):U<q*V:=by
 have e1:q*(v1*b+v2)=q*v1*b+q*v2:=by rw [Zbf,Zbc]
 have e2:u1*b=q*v1*b+r*b:=by rw [<- hr,Zav]
 have h1:u1*b+u0+1<=q*(v1*b+v2):=by omega
 have h2:(u1*b+u0+1)*P<=q*(v1*b+v2)*P:=Zao P h1;have e3:q*V=q*(v1*b+v2)*P+q*vl:=by rw [hV,Zbf,Zbc]
 rw [Zav,Zdk] at h2;omega
theorem zur {b P U V u1 u0 ul v1 v2 vl q r:Nat} (hU:U=(u1*b+u0)*P+ul) (hV:V=(v1*b+v2)*P+vl) (hvl:vl<P)
  (hr:q*v1+r=u1) (hq:q<=b) (h:q*v2<=r*b+u0) (hv:1<=v1):q*V<=U+V:=by
 have e1:q*(v1*b+v2)=q*v1*b+q*v2:=by rw [Zbf,Zbc]
 have e2:u1*b=q*v1*b+r*b:=by rw [<- hr,Zav]
 have h1:q*(v1*b+v2)<=u1*b+u0:=by omega
 have h2:q*(v1*b+v2)*P<=(u1*b+u0)*P:=Zao P h1;have e3:q*V=q*(v1*b+v2)*P+q*vl:=by rw [hV,Zbf,Zbc]
 have h3:q*vl<=b*P:=Zbh hq (by omega)
 have h4:b*P<=(v1*b+v2)*P:=Zao P (by
  have:1*b<=v1*b:=Zao b hv;omega)
 omega
theorem zus {b P U V u1 u0 ul v1 v2 vl q r:Nat} (hU:U=(u1*b+u0)*P+ul) (hul:ul<P) (hu:u0<b) (hV:V=(v1*b+v2)*P+vl)
  (hr:q*v1+r=u1) (h:r<v1):U<(q+1)*V:=by
 have h1:u1+1<=(q+1)*v1:=by rw [Zav];omega
 have h2:(u1+1)*b<=(q+1)*v1*b:=Zao b h1;have h3:u1*b+u0+1<=(q+1)*(v1*b+v2):=by
  rw [Zbf,<- Zbc];rw [Zav,Zdk] at h2;omega
 have h4:(u1*b+u0+1)*P<=(q+1)*(v1*b+v2)*P:=Zao P h3;have e3:(q+1)*V=(q+1)*(v1*b+v2)*P+(q+1)*vl:=by rw [hV,Zbf,Zbc]
 rw [Zav,Zdk] at h4;omega
theorem zes {U V q r:Nat} (h:U=q*V+r) (hr:r<V):U / V=q/\U%V=r:=by
 have hv:0<V:=by omega
 subst h;refine ⟨?_,?_⟩
 .rw [Zcz,Nat.add_mul_div_right _ _ hv,Zft hr,Zbi]
 .rw [Zcz,Nat.add_mul_mod_self_right,Zbs hr]
end Go.Ev
namespace Go.Ev
open Go Go.Proofs
variable {B:Nat}
set_option maxRecDepth 100000
theorem yD {B:Nat}:m7 Tryz.prog B Prop:=zbm mixed
abbrev U (m:Nat):AV:=.int .u64 (m:Int)
def encW (l:List Nat):AV:=.lst 1 l.length (l.map U)
theorem zrf {z:Int} (h:0<=z/\z<18446744073709551616):IntKind.wrap .u64 z=z:=by
 have e:IntKind.wrap .u64 z=z%18446744073709551616:=by
  unfold IntKind.wrap;first | rfl | simp [IntKind.bits,IntKind.signed] | skip
 rw [e];omega
theorem zrg {m:Nat}:IntKind.wrap .u64 (m:Int)=((m%18446744073709551616:Nat):Int):=by
 have e:IntKind.wrap .u64 (m:Int)=(m:Int)%18446744073709551616:=by
  unfold IntKind.wrap;first | rfl | simp [IntKind.bits,IntKind.signed] | skip
 rw [e];omega
theorem zrh {z:Int}:IntKind.wrap .u64 z=z%18446744073709551616:=by
 unfold IntKind.wrap;first | rfl | simp [IntKind.bits,IntKind.signed]
theorem uAdd {a b:Nat} {K:AV->OP}:za .add .int (U a) (U b) K=K (U ((a+b)%18446744073709551616)):=by
 rw [zwh,show (a:Int)+(b:Int)=((a+b:Nat):Int) by omega,zrg]
theorem uMul {a b:Nat} {K:AV->OP}:za .mul .int (U a) (U b) K=K (U ((a*b)%18446744073709551616)):=by
 rw [qcm,show (a:Int)*(b:Int)=((a*b:Nat):Int) by simp,zrg]
theorem uShr {m n:Nat} {k:IntKind} {K:AV->OP} (hn:n<=64):za .shr .int (U m) (.int k (n:Int)) K=K (U (m / 2 ^ n)):=by
 have e:za .shr .int (U m) (.int k (n:Int)) K=(bif ilt (n:Int) 0 then Out.no 5 else wm ((m:Int).fdiv (2 ^ (min (n:Int).toNat IntKind.u64.bits))) λz=>K (.int .u64 z)):=by cases k <;> rfl
 have h0:ilt (n:Int) 0=false:=rfl;rw [e,h0,cond_false,jS];have hb:IntKind.u64.bits=64:=rfl;rw [hb,Zfm,Zbu hn,Int.fdiv_eq_ediv_of_nonneg _ (Int.pow_nonneg (by omega))]
 congr 2
theorem zb2 {m:Nat} {k:IntKind} {K:AV->OP}:za .shr .int (U m) (.int k 32) K=K (U (m / 4294967296)):=uShr (n:=32) (by omega)
theorem uAnd {m:Nat} {K:AV->OP} (hm:m<18446744073709551616):za .and .int (U m) (.int .u64 4294967295) K=K (U (m%4294967296)):=by
 have e:za .and .int (U m) (U 4294967295) K=wm (IntKind.u64.wrap ((BitVec.ofInt 64 (m:Int) &&& BitVec.ofInt 64 ((4294967295:Nat):Int)).toNat:Int)) λz=>K (.int .u64 z):=rfl;have h1:(BitVec.ofInt 64 (m:Int) &&& BitVec.ofInt 64 ((4294967295:Nat):Int)).toNat=m%4294967296:=by
  rw [BitVec.ofInt_natCast,BitVec.ofInt_natCast,BitVec.toNat_and,BitVec.toNat_ofNat,BitVec.toNat_ofNat,Zbs hm];exact Nat.and_two_pow_sub_one_eq_mod m 32
 have e2:za .and .int (U m) (.int .u64 4294967295) K=za .and .int (U m) (U 4294967295) K:=rfl;rw [e2,e,jS,h1,zrf (by omega)]
theorem uLeq {a b:Nat} {K:AV->OP}:za .leq .int (U a) (U b) K=K (.bool (decide (a<=b))):=by rw [rZ];simp only [Int.ofNat_le]
theorem uGeq {a b:Nat} {K:AV->OP}:za .geq .int (U a) (U b) K=K (.bool (decide (b<=a))):=by rw [fe];simp only [Int.ofNat_le]
theorem uEql {a b:Nat} {K:AV->OP}:za .eql .int (U a) (U b) K=K (.bool (decide (a=b))):=by rw [dh];simp only [Int.natCast_inj]
theorem qcw {a:Nat} {K:AV->OP}:za .eql .int (U a) (.int .u64 0) K=K (.bool (decide (a=0))):=uEql (b:=0)
theorem zri {k:IntKind} {z:Int} {m:Nat} {K:AV->OP} (h:z=(m:Int)) (hm:m<18446744073709551616):kL .u64 (.int k z) K=K (U m):=by
 show wm (uQ .u64 z) (λz=>K (.int .u64 z))=_;rw [jS,uW,zrf (by omega),h]
theorem zrj {k:IntKind} {z:Int} {K:AV->OP} (h : -9223372036854775808<=z/\z<0):kL .u64 (.int k z) K=K (U (z+18446744073709551616).toNat):=by
 show wm (uQ .u64 z) (λz=>K (.int .u64 z))=_;rw [jS,uW,zrh,show z%18446744073709551616=((z+18446744073709551616).toNat:Int) by omega]
theorem zet {k:IntKind} {z:Int} {K:AV->OP} (h : -9223372036854775808<=z/\z<=9223372036854775807):kL .i64 (.int k z) K=K (I z):=by
 show wm (uQ .i64 z) (λz=>K (.int .i64 z))=_;rw [jS,uW,qM h]
theorem uNeg {z:Int} {K:AV->OP} (h : -9223372036854775807<=z/\z<=9223372036854775808):sNeg (I z) K=K (I (-z)):=by
 show wm (uQ .i64 (0-z)) (λz=>K (.int .i64 z))=_;rw [jS,uW,qM (by omega),Int.zero_sub]
theorem qcx {K:AV->OP}:sNeg (I (-9223372036854775808)) K=K (I (-9223372036854775808)):=nr rfl
theorem uGet {l:List Nat} {i x:Nat} (h:l[i]? = some x):(l.map U)[i]? = some (U x):=by rw [List.getElem?_map,h];rfl
theorem uLen {l:List Nat} {K:AV->OP}:sLen (encW l) K=K (I l.length):=yA ..
theorem uIx {l:List Nat} {i:Nat} {j:Int} {op:AV->OP} (hj:j=(i:Int)) (hi:i<l.length):zH 1 (encW l) (I j) op=op (.fp ((l.map U).drop (i*1))):=fE hj hi
theorem uLd {l:List Nat} {i x:Nat} {h:T Blk} {op:AV->OP} (hx:l[i]? = some x):zE (.fp ((l.map U).drop (i*1))) h op=op (U x):=ldL (uGet hx)
theorem qj.zjn {N:Pa->Prop} {O:AV->Prop} {h:T Blk} {id:Pa} {l:List AV} {cap:Option Nat} {n:Nat} (H:qj h id l) (hid:N id) (hcap:zgt n cap) (hn:n<=l.length) (hf:∀ v∈l,rU v=true):Frz True N O h (.sl id 0 n cap 1) (.lst 1 n (l.take n)):=by
 obtain ⟨op,t,h1,h2⟩:=H;refine .sl _ _ _ _ _ op _ t _ hid hcap h1 (by omega) (by rw [Zan];omega) (List.all_eq_true.2 λv hv=>rU.qf (hf v (Zcl hv))) λi v hi => ?_;rw [List.getElem?_take] at hi;split at hi
 .have:=yR t 0 l.length i (List.getElem?_eq_some_iff.1 hi).1;rw [h2,hi] at this;rw [<- Option.some.inj this];exact zT (hf v (Zad hi))
 .cases hi
theorem Hp.zjn {h0 h:T Blk} {nx id:Pa} {L:List Ob} {k n:Nat} {l:List AV} {cap:Option Nat} (H:Hp h0 h nx L) (hk:L[k]? = some (.arr id l)) (hcap:zgt n cap) (hn:n<=l.length) (hf:∀ v∈l,rU v=true):tQ h0 h (.sl id 0 n cap 1) (.lst 1 n (l.take n)) :=
 qj.zjn (H.own _ (Zad hk)) (H.off id (List.mem_flatMap.2 ⟨_,Zad hk,by simp [Ob.names]⟩)) hcap hn hf
theorem Hp.zxf {h0 h:T Blk} {nx id:Pa} {L:List Ob} {l:List AV} (H:Hp h0 h nx (.arr id l::L)):Hp h0 (T.set .no .no id h) nx L:=by
 have hid:T.get .no id h0=.no:=H.off id (by simp [Ob.names]);have H3:=H.drop;have nd:=H.nd;simp only [Zcu,Ob.names] at nd;have hni:id∉L.flatMap Ob.names:=λhi=>(List.nodup_append.1 nd).2.2 id (by simp) id hi rfl;have other:∀ j,j≠id->T.get .no j (T.set .no .no id h)=T.get .no j h:=λj hj=>T.yc _ _ _ _ _ hj;refine ⟨λj hj => ?_,λy hy => ?_,H3.off,H3.nd,λj hj => ?_⟩
 .rw [other j (by rintro rfl;exact hj hid)];exact H.keep j hj
 .exact (H3.own y hy).congr λm hm=>other m (by rintro rfl;exact hni (List.mem_flatMap.2 ⟨y,hy,hm⟩))
 .by_cases e:j=id
  .subst e;exact T.get_set_same _ _ _ _
  .rw [other j e];exact H.fr j hj
theorem zzd {a b:Nat} (ha:a<18446744073709551616) (hb:b<18446744073709551616):Pure Tryz.prog B 263 [U a,U b] (· = .tup [U (a*b / 18446744073709551616),U (a*b%18446744073709551616)]):=by
 intro p h nx K hK;refine zN zQ yD 10 λhf => ?_;rw [jl.go,jl.t23,zA,jl.zy,zA,jl.zx,uAnd ha,zA,jl.je,zb2,zA,jl.pq,uAnd hb,zA,jl.fJ,zb2];have ha0:a%4294967296<4294967296:=by omega
 have ha1:a / 4294967296<4294967296:=by omega
 have hb0:b%4294967296<4294967296:=by omega
 have hb1:b / 4294967296<4294967296:=by omega
 have ea:a=a / 4294967296*4294967296+a%4294967296:=by omega
 have eb:b=b / 4294967296*4294967296+b%4294967296:=by omega
 generalize a / 4294967296=a1 at *
 generalize a%4294967296=a0 at *
 generalize b / 4294967296=b1 at *
 generalize b%4294967296=b0 at *
 have m00:a0*b0<=4294967295*4294967295:=Zbh (by omega) (by omega);have m10:a1*b0<=4294967295*4294967295:=Zbh (by omega) (by omega);have m01:a0*b1<=4294967295*4294967295:=Zbh (by omega) (by omega);have m11:a1*b1<=4294967295*4294967295:=Zbh (by omega) (by omega);have hp:a*b=a1*b1*18446744073709551616+(a1*b0+a0*b1)*4294967296+a0*b0:=by
  rw [ea,eb];simp only [Zav,Zbf];have e1:a1*4294967296*(b1*4294967296)=a1*b1*18446744073709551616:=by
   rw [Nat.mul_mul_mul_comm]
  have e2:a1*4294967296*b0=a1*b0*4294967296:=by rw [Nat.mul_right_comm]
  have e3:a0*(b1*4294967296)=a0*b1*4294967296:=by rw [Zbc]
  rw [e1,e2,e3];omega
 rw [zA,jl.fG,uMul,Zbs (show a0*b0<18446744073709551616 by omega),zA,jl.qi,uMul,Zbs (show a1*b0<18446744073709551616 by omega),zb2,uAdd,Zbs (show a1*b0+a0*b0 / 4294967296<18446744073709551616 by omega),zA,jl.fC,uAnd (by omega),zA,jl.fH,zb2,zA,jl.fK,uMul,Zbs (show a0*b1<18446744073709551616 by omega),uAdd,zA,jl.fT,uMul,Zbs (show a1*b1<18446744073709551616 by omega),uAdd,zb2,uAdd,zA,jl.di,uMul];simp only [zI,zO];rw [jl.ret];refine hK _ ?_ hf;rw [hp]
 generalize a0*b0=p00 at *
 generalize a1*b0=p10 at *
 generalize a0*b1=p01 at *
 generalize a1*b1=p11 at *
 congr 3
 congr 1
 omega
theorem zeu {z:Int} (h : -9223372036854775808<=z/\z<=9223372036854775807):Pure Tryz.prog B 264 [I z] (· = U z.natAbs):=by
 refine zX λhh nx K H0 hK=>zN zQ yD 100 λhf => ?_;have ret:∀ {m:Nat},m=z.natAbs->K (U m) hh nx=.ok True:=λe=>hK _ _ _ _ _ H0 (zT rfl) (by rw [e]);rw [dm.go,dm.t9,zA,dm.zy,zA,zA,dm.zx,ji,zB,dm.v2];by_cases c:z<0
 .rw [Zab c,zD,zA,dm.je];by_cases d:z = -9223372036854775808
  .subst d;rw [qcx,zrj (by omega)];simp only [zI,zO];rw [dm.ret];exact ret (by decide)
  .rw [uNeg (by omega),zri (m:=z.natAbs) (by omega) (by omega)];simp only [zI,zO];rw [dm.ret];exact ret rfl
 .rw [Zaa c,zC,zG,zA,dm.qi,zri (m:=z.natAbs) (by omega) (by omega)];simp only [zI,zO];rw [dm.ret];exact ret rfl
theorem zut {l:List Nat} {k x:Nat} (h:l[k]? = some x) (hx:x≠0):Nm (l.take (k+1)):=by
 unfold Nm;rw [Zar,h];show (l.take k++[x]).getLast? ≠ _;rw [List.getLast?_concat];intro q;cases q;exact hx rfl
theorem Dg.take {b n:Nat} {l:List Nat} (h:Dg b l):Dg b (l.take n):=λx hx=>h x (Zcl hx)
def cmpT (a b:List Nat):Nat->Int
 | 0=>0
 | k+1=>if a.getD k 0=b.getD k 0 then cmpT a b k else if a.getD k 0<b.getD k 0 then -1 else 1
def cmpW (a b:List Nat):Int:=if a.length≠b.length then (if a.length<b.length then -1 else 1) else cmpT a b a.length
theorem getD_some {l:List Nat} {k:Nat} (h:k<l.length):l[k]? = some (l.getD k 0):=by rw [Zac,List.getElem?_eq_getElem h];rfl
theorem jY {b:Nat} {l:List Nat} {k:Nat} (hb:0<b) (h:Dg b l):l.getD k 0<b:=by
 by_cases c:k<l.length
 .exact h _ (Zad (getD_some c))
 .rw [Zac,List.getElem?_eq_none (by omega)];exact hb
theorem zde {b:Nat} {x y:List Nat} (hb:0<b) (hx:Dg b x) (hy:Dg b y):∀ {k:Nat},k<=x.length->k<=y.length->cmpT x y k=(if bv b (x.take k)<bv b (y.take k) then -1 else if bv b (y.take k)<bv b (x.take k) then 1 else 0)
 | 0,_,_=>by simp [cmpT,bv]
 | k+1,h1,h2=>by
  have e1:=getD_some (l:=x) (k:=k) (by omega);have e2:=getD_some (l:=y) (k:=k) (by omega);have l1:=vE hb (hx.take (n:=k));have l2:=vE hb (hy.take (n:=k));rw [Zan,Zbu (by omega)] at l1 l2;rw [cmpT,qJ e1,qJ e2,zde hb hx hy (by omega) (by omega)]
  generalize bv b (x.take k)=X at *
  generalize bv b (y.take k)=Y at *
  generalize x.getD k 0=u at *
  generalize y.getD k 0=v at *
  generalize b ^ k=P at *
  by_cases c:u=v
  .rw [if_pos c,c];simp only [Nat.add_lt_add_iff_right]
  .rw [if_neg c];by_cases d:u<v
   .have q:P*(u+1)<=P*v:=Zbd P d;rw [Zbf,Zbo] at q;have q1:X+P*u<Y+P*v:=by omega
    rw [if_pos d,if_pos q1]
   .have q:P*(v+1)<=P*u:=Zbd P (by omega);rw [Zbf,Zbo] at q;have q1:Y+P*v<X+P*u:=by omega
    have q2:¬ X+P*u<Y+P*v:=by omega
    rw [if_neg d,if_neg q2,if_pos q1]
theorem uN {b z n:Nat} (hb:2<=b) (h:z<b ^ n):(dg b z).length<=n:=by
 induction n generalizing z with
 | zero=>rw [show z=0 by simp at h;exact h,j3];simp
 | succ n ih =>
  by_cases hz:z=0
  .rw [hz,j3];simp
  .rw [uV hb hz,Zbm];have:=ih (z:=z / b) (by rw [Zep (by omega),<- Zbr];exact h);omega
theorem zmd {b z n:Nat} (hb:2<=b) (h:b ^ n<=z):n<(dg b z).length:=by
 induction n generalizing z with
 | zero=>rw [uV hb (by simp at h;omega)];simp
 | succ n ih =>
  have hp:0<b ^ (n+1):=Zew (by omega);rw [uV hb (by omega),Zbm];have:=ih (z:=z / b) (by rw [Zfu (by omega),<- Zbr];exact h);omega
theorem wR {b y z:Nat} (hb:2<=b) (h:(dg b y).length<(dg b z).length):y<z:=by
 rcases Zda y z with q | q
 .exact q
 .exfalso
  have h1:=uN hb (z:=z) (n:=(dg b y).length) (Zdr q (by
   have:=vE (b:=b) (by omega) (gL hb y).2.1
   rwa [(gL hb y).1] at this))
  omega
def cmpN (a b:Nat):Int:=if a<b then -1 else if b<a then 1 else 0
theorem zko {b x y:Nat} (hb:2<=b):cmpW (dg b x) (dg b y)=cmpN x y:=by
 unfold cmpW cmpN;by_cases c:(dg b x).length=(dg b y).length
 .rw [if_neg (by simpa using c),zde (by omega) (gL hb x).2.1 (gL hb y).2.1 (Zag _) (by omega),Zet,c,Zet,(gL hb x).1,(gL hb y).1]
 .rw [if_pos c];by_cases d:(dg b x).length<(dg b y).length
  .rw [if_pos d,if_pos (wR hb d)]
  .have:=wR hb (y:=y) (z:=x) (by omega);rw [if_neg d,if_neg (by omega),if_pos this]
theorem qF {α:Type} {A C:List α} {x y:α} {i:Nat} (h:A.length=i):(A++x::C).set i y=A++y::C:=by
 subst h;rw [Zeq _ _ (Zag _),Zct];rfl
theorem zze (b n:Nat):bv b (List.replicate n 0)=0:=by
 induction n with
 | zero=>rfl
 | succ n ih=>rw [Zee,bv,ih];simp
theorem Dg.append {b:Nat} {l m:List Nat} (h1:Dg b l) (h2:Dg b m):Dg b (l++m):=λx hx=>by
 rcases List.mem_append.1 hx with q | q
 .exact h1 x q
 .exact h2 x q
theorem Dg.one {b x:Nat} (h:x<b):Dg b [x]:=λy hy=>by rw [List.mem_singleton.1 hy];exact h
theorem Dg.rep {b n:Nat} (h:0<b):Dg b (List.replicate n 0):=λx hx=>by rw [(List.mem_replicate.1 hx).2];exact h
theorem yO {b:Nat} {l:List Nat} {i:Nat}:bv b (l.take (i+1))=bv b (l.take i)+b ^ i*l.getD i 0:=by
 by_cases c:i<l.length
 .exact qJ (getD_some c)
 .rw [Zaf (by omega),Zaf (by omega),Zac,List.getElem?_eq_none (by omega)];simp
theorem zha {P b X Y x y c Z:Nat} (h:Z+P*c=X+Y):(Z+P*((x+y+c)%b))+P*b*((x+y+c) / b)=(X+P*x)+(Y+P*y):=by
 have e:P*((x+y+c)%b)+P*b*((x+y+c) / b)=P*(x+y+c):=by rw [Zbc,<- Zbf,Zej]
 have e2:P*(x+y+c)=P*x+P*y+P*c:=by rw [Zbf,Zbf]
 omega
theorem zme {P b X Y x y c Z:Nat} (hx:x<b) (hy:y<b) (hc:c<=1) (h:Z+Y=X+P*c) (hb:1<=b) :
  (Z+P*((x+b-y-c)%b))+(Y+P*y)=(X+P*x)+P*b*(if x<y+c then 1 else 0):=by
 have q:(x+b-y-c)%b+y+c=x+b*(if x<y+c then 1 else 0):=by
  by_cases d:x<y+c
  .rw [if_pos d,Zbs (by omega)];omega
  .rw [if_neg d,show x+b-y-c=(x-y-c)+b by omega,Nat.add_mod_right,Zbs (by omega)];omega
 have e:=congrArg (P * ·) q;simp only [Zbf] at e;rw [Zbc P b];omega
theorem zrk {N P Q b p z c X Y y x:Nat} (h:N+P*Q*c=X+P*(x*Y)) (hp:p=x*y) :
  (N+P*Q*((p+z+c)%b))+P*(Q*b)*((p+z+c) / b)=(X+P*Q*z)+P*(x*(Y+Q*y)):=by
 have e:P*Q*((p+z+c)%b)+P*(Q*b)*((p+z+c) / b)=P*Q*(p+z+c):=by
  rw [<- Zbc P Q b,Zbc (P*Q) b,<- Zbf,Zej]
 have e2:P*Q*(p+z+c)=P*Q*p+P*Q*z+P*Q*c:=by rw [Zbf,Zbf]
 have e3:P*(x*(Y+Q*y))=P*(x*Y)+P*Q*p:=by
  rw [hp,Zbf,Zbf,<- Zbc x Q y,Zax x Q,Zbc Q x y,<- Zbc P Q]
 omega
def zb3:List UInt8:=[0,1,2,2,3,3,3,3,4,4,4,4,4,4,4,4,5,5,5,5,5,5,5,5,5,5,5,5,5,5,5,5,6,6,6,6,6,6,6,6,6,6,6,6,6,6,6,6,6,6,6,6,6,6,6,6,6,6,6,6,6,6,6,6,7,7,7,7,7,7,7,7,7,7,7,7,7,7,7,7,7,7,7,7,7,7,7,7,7,7,7,7,7,7,7,7,7,7,7,7,7,7,7,7,7,7,7,7,7,7,7,7,7,7,7,7,7,7,7,7,7,7,7,7,7,7,7,7,8,8,8,8,8,8,8,8,8,8,8,8,8,8,8,8,8,8,8,8,8,8,8,8,8,8,8,8,8,8,8,8,8,8,8,8,8,8,8,8,8,8,8,8,8,8,8,8,8,8,8,8,8,8,8,8,8,8,8,8,8,8,8,8,8,8,8,8,8,8,8,8,8,8,8,8,8,8,8,8,8,8,8,8,8,8,8,8,8,8,8,8,8,8,8,8,8,8,8,8,8,8,8,8,8,8,8,8,8,8,8,8,8,8,8,8,8,8,8,8,8,8,8,8,8,8,8,8]
theorem zmf:∀ i<256,(zb3[i]?).all (λt=>decide (t.toNat<=8/\i<2 ^ t.toNat/\(0<i->2 ^ t.toNat<=2*i)))=true/\(zb3[i]?).isSome=true:=by decide
def zb4 (x n:Nat):Prop:=n<=64/\x<2 ^ n/\(0<x->2 ^ n<=2*x)
theorem zb5 {x n k:Nat} (h:zb4 (x / 2 ^ k) n) (hx:2 ^ k<=x) (hn:n+k<=64):zb4 x (n+k):=by
 obtain ⟨h1,h2,h3⟩:=h;have hp:0<2 ^ k:=Zew (by omega);have h4:0<x / 2 ^ k:=Nat.div_pos hx hp;refine ⟨hn,?_,λ_ => ?_⟩
 .rw [Zdf];exact (Zep hp).1 h2
 .rw [Zdf];have:=Zao (2 ^ k) (h3 h4);have h5:=Nat.div_mul_le_self x (2 ^ k);rw [Zbc] at this;omega
theorem zkp {x n:Nat} {K:Kw Prop} {h:T Blk} {nx:Pa} {x2 x3 x4:AV} (hx:x<256) (hn:n<=1000) (hK:∀ t,zb4 x t->t<=8->K (I ((n+t:Nat):Int)) h nx=.ok True) :
  IR.run yx.t20 (CS Tryz.prog B) 100 (fnO yx.res K) (zi yx.res K) (yx.fr (U x) (I (n:Int)) x2 x3 x4) h nx=.ok True:=by
 obtain ⟨a,b⟩:=zmf x hx;obtain ⟨t,ht⟩:=Option.isSome_iff_exists.1 b;rw [ht] at a;simp only [Option.all_some,decide_eq_true_eq] at a;have hs:∀ K:AV->OP,jM (.str zb3) (.int .u8 (x:Int)) K=K (.int .u8 (t.toNat:Int)):=λK=>by
  show (match zb3[x]? with
   | some b=>dx b.toNat λn=>K (.int .u8 (.ofNat n))
   | none=>.no 16)=_
  rw [ht];simp only [yJ];rfl
 have hc:∀ K:AV->OP,kL .u8 (U x) K=K (.int .u8 (x:Int)):=λK=>by
  show wm (uQ .u8 (x:Int)) (λz=>K (.int .u8 z))=_;rw [jS,uW];have e:IntKind.wrap .u8 (x:Int)=(x:Int)%256:=by
   unfold IntKind.wrap;first | rfl | simp [IntKind.bits,IntKind.signed]
  rw [e,show (x:Int)%256=(x:Int) by omega]
 rw [yx.t20,zA,yx.sV,hc];rw [show (AV.str [0,1,2,2,3,3,3,3,4,4,4,4,4,4,4,4,5,5,5,5,5,5,5,5,5,5,5,5,5,5,5,5,6,6,6,6,6,6,6,6,6,6,6,6,6,6,6,6,6,6,6,6,6,6,6,6,6,6,6,6,6,6,6,6,7,7,7,7,7,7,7,7,7,7,7,7,7,7,7,7,7,7,7,7,7,7,7,7,7,7,7,7,7,7,7,7,7,7,7,7,7,7,7,7,7,7,7,7,7,7,7,7,7,7,7,7,7,7,7,7,7,7,7,7,7,7,7,7,8,8,8,8,8,8,8,8,8,8,8,8,8,8,8,8,8,8,8,8,8,8,8,8,8,8,8,8,8,8,8,8,8,8,8,8,8,8,8,8,8,8,8,8,8,8,8,8,8,8,8,8,8,8,8,8,8,8,8,8,8,8,8,8,8,8,8,8,8,8,8,8,8,8,8,8,8,8,8,8,8,8,8,8,8,8,8,8,8,8,8,8,8,8,8,8,8,8,8,8,8,8,8,8,8,8,8,8,8,8,8,8,8,8,8,8,8,8,8,8,8,8,8,8,8,8,8,8])=.str zb3 from rfl,hs,zet (by omega),jc (by omega)];simp only [zI,zO];rw [yx.ret,show (n:Int)+(t.toNat:Int)=((n+t.toNat:Nat):Int) by omega];exact hK _ ⟨by omega,a.2⟩ a.1
theorem zrl {x:Nat} (hx:x<18446744073709551616):Pure Tryz.prog B 312 [U x] (λv=>∃ n:Nat,v=I (n:Int)/\zb4 x n):=by
 intro p h nx K hK;refine zN zQ yD 100 λhf => ?_;have fin:∀ {n},zb4 x n->K (I (n:Int)) h nx=.ok True:=λh'=>hK _ ⟨_,rfl,h'⟩ hf;have s3:∀ (y n:Nat) (x2 x3 x4:AV),y<65536->n<=48->(∀ t,zb4 y t->t<=16->K (I ((n+t:Nat):Int)) h nx=.ok True)->IR.run yx.t21 (CS Tryz.prog B) 100 (fnO yx.res K) (zi yx.res K) (yx.fr (U y) (I (n:Int)) x2 x3 x4) h nx=.ok True:=λy n x2 x3 x4 hy hn hK'=>by
  rw [yx.t21,zA,zA,yx.fU,show (AV.int .u64 256)=U 256 from rfl,uGeq,zB,yx.v4];by_cases c:256<=y
  .rw [Zab c,zD,zA,yx.sD,show (AV.int .u64 8)=.int .u64 ((8:Nat):Int) from rfl,uShr (by omega),yx.oC,jc (by omega),show (n:Int)+8=((n+8:Nat):Int) by omega];exact zkp (by omega) (by omega) λt h1 h2=>by
    have:=hK' (t+8) (zb5 h1 c (by omega)) (by omega)
    rwa [show n+(t+8)=n+8+t by omega] at this
  .rw [Zaa c,zC,zG];exact zkp (by omega) (by omega) λt h1 h2=>hK' t h1 (by omega)
 have s2:∀ (y n:Nat) (x2 x3 x4:AV),y<4294967296->n<=32->(∀ t,zb4 y t->t<=32->K (I ((n+t:Nat):Int)) h nx=.ok True)->IR.run yx.t22 (CS Tryz.prog B) 100 (fnO yx.res K) (zi yx.res K) (yx.fr (U y) (I (n:Int)) x2 x3 x4) h nx=.ok True:=λy n x2 x3 x4 hy hn hK'=>by
  rw [yx.t22,zA,zA,yx.fC,show (AV.int .u64 65536)=U 65536 from rfl,uGeq,zB,yx.v3];by_cases c:65536<=y
  .rw [Zab c,zD,zA,yx.fH,show (AV.int .u64 16)=.int .u64 ((16:Nat):Int) from rfl,uShr (by omega),yx.fK,jc (by omega),show (n:Int)+16=((n+16:Nat):Int) by omega];exact s3 _ _ _ _ _ (by omega) (by omega) λt h1 h2=>by
    have:=hK' (t+16) (zb5 h1 c (by omega)) (by omega)
    rwa [show n+(t+16)=n+16+t by omega] at this
  .rw [Zaa c,zC,zG];exact s3 _ _ _ _ _ (by omega) (by omega) λt h1 h2=>hK' t h1 (by omega)
 rw [yx.go,yx.t24,zA,yx.zy,zA,zA,yx.zx,show (AV.int .u64 4294967296)=U 4294967296 from rfl,uGeq,zB,yx.v2];by_cases c:4294967296<=x
 .rw [Zab c,zD,zA,yx.je,show (AV.int .u64 32)=.int .u64 ((32:Nat):Int) from rfl,uShr (by omega),yx.pq];exact s2 _ 32 _ _ _ (by omega) (by omega) λt h1 h2=>by
   have:=fin (zb5 h1 c (by omega))
   rwa [show t+32=32+t by omega] at this
 .rw [Zaa c,zC,zG];exact s2 _ 0 _ _ _ (by omega) (by omega) λt h1 h2=>by
   have:=fin h1
   rwa [show t=0+t by omega] at this
theorem uQuo {a b:Nat} {K:AV->OP} (hb:1<=b) (ha:a<18446744073709551616):za .quo .int (U a) (U b) K=K (U (a / b)):=by
 have e:za .quo .int (U a) (U b) K=(bif ieq (b:Int) 0 then Out.no 5 else wm (IntKind.u64.wrap ((a:Int).tdiv b)) λz=>K (.int .u64 z)):=rfl;have h0:ieq (b:Int) 0=false:=by
  cases b with
  | zero=>omega
  | succ b=>rfl
 have h1:a / b<=a:=Zbz a b;rw [e,h0,cond_false,jS,show (a:Int).tdiv b=((a / b:Nat):Int) from rfl]
 generalize a / b=q at *
 rw [zrf (by omega)]
theorem uRem {a b:Nat} {K:AV->OP} (hb:1<=b) (ha:a<18446744073709551616):za .rem .int (U a) (U b) K=K (U (a%b)):=by
 have e:za .rem .int (U a) (U b) K=(bif ieq (b:Int) 0 then Out.no 5 else wm ((a:Int).tmod b) λz=>K (.int .u64 z)):=rfl;have h0:ieq (b:Int) 0=false:=by
  cases b with
  | zero=>omega
  | succ b=>rfl
 rw [e,h0,cond_false,jS,show (a:Int).tmod b=((a%b:Nat):Int) from rfl]
theorem zuu {b:Nat} {l:List Nat} {m:Nat} (h:l.length=m+3):bv b l=((l.getD (m+2) 0*b+l.getD (m+1) 0)*b+l.getD m 0)*b ^ m+bv b (l.take m):=by
 have e:bv b l=bv b (l.take (m+2+1)):=by rw [Zaf (by omega)]
 have p1:b ^ (m+1)=b ^ m*b:=Zbr ..;have p2:b ^ (m+2)=b ^ m*b*b:=by rw [show m+2=m+1+1 from rfl,Zbr,Zbr]
 rw [e,yO,yO,yO,p2,p1]
 generalize bv b (l.take m)=z
 generalize l.getD (m+2) 0=x2
 generalize l.getD (m+1) 0=x1
 generalize l.getD m 0=x0
 generalize b ^ m=P
 simp only [Zav];have a1:P*b*b*x2=x2*b*b*P:=by simp only [Zax,Zgk]
 have a2:P*b*x1=x1*b*P:=by simp only [Zax,Zgk]
 have a3:P*x0=x0*P:=Zax _ _;omega
theorem zuv {b:Nat} {l:List Nat} {m:Nat} (h:l.length=m+2):bv b l=(l.getD (m+1) 0*b+l.getD m 0)*b ^ m+bv b (l.take m):=by
 have e:bv b l=bv b (l.take (m+1+1)):=by rw [Zaf (by omega)]
 rw [e,yO,yO,Zbr]
 generalize bv b (l.take m)=z
 generalize l.getD (m+1) 0=x1
 generalize l.getD m 0=x0
 generalize b ^ m=P
 simp only [Zav];have a2:P*b*x1=x1*b*P:=by simp only [Zax,Zgk]
 have a3:P*x0=x0*P:=Zax _ _;omega
theorem xY {b:Nat} {l:List Nat} {m:Nat} (hb:0<b) (h:Dg b l) (hm:m<=l.length):bv b (l.take m)<b ^ m:=by
 have:=vE hb (h.take (n:=m))
 rwa [Zan,Zbu hm] at this
theorem zrm {b q r d a z A:Nat} (h:A=z*d+r) (hq:(r*b+a)=q*d+(r*b+a)%d):a+b*A=(q+b*z)*d+(r*b+a)%d:=by
 rw [h,Zav,Zbf,Zbc,Zax b r];omega
theorem zhb {k:Nat} {Q:List Nat}:List.replicate (k+1) 0++Q=List.replicate k 0++0::Q:=by
 rw [List.replicate_succ',Zbl];rfl
theorem zrn {P b A W0 V Q X:Nat} (h:X=(A+P*W0)+P*b*Q*V):X=(A+P*(W0%V))+P*(W0 / V+b*Q)*V:=by
 have k:=Zej W0 V;have e:=congrArg (P * ·) k;simp only [Zbf] at e;have e1:P*(W0 / V+b*Q)*V=P*(V*(W0 / V))+P*b*Q*V:=by
  rw [Zbf,Zav,Zbc P (W0 / V) V,Zax (W0 / V) V,<- Zbc P b Q]
 omega
theorem mV {b:Nat} {l:List Nat} {k:Nat} (h:k<=l.length):bv b l=bv b (l.take k)+b ^ k*bv b (l.drop k):=by
 have:=uO b (l.take k) (l.drop k)
 rwa [Zcw,Zan,Zbu h] at this
theorem zhc {b:Nat} {l:List Nat} {k:Nat} (h:k<=l.length) (hv:bv b l<b ^ k):bv b (l.drop k)=0/\bv b (l.take k)=bv b l:=by
 have e:=mV (b:=b) h;rcases Zbx (bv b (l.drop k)) with q | q
 .rw [q,Zfg,Zco] at e;exact ⟨q,e.symm⟩
 .have:b ^ k*1<=b ^ k*bv b (l.drop k):=Zbd _ q;omega
theorem aP {N:Pa->Prop} {O:AV->Prop} {hh:T Blk} {l:List AV} (h:∀ v∈l,rU v=true):Frz True N O hh (.agg l) (.agg l) :=
 .agg _ _ rfl (List.all_eq_true.2 λv hv=>rU.qf (h v hv)) λi v v' h1 h2=>by rw [h1] at h2;cases h2;exact zT (h v (Zad h1))
theorem bEql {a b:Bool} {K:AV->OP}:za .eql .bool (.bool a) (.bool b) K=K (.bool (a==b)):=by cases a <;> cases b <;> exact nr rfl
theorem bNeq {a b:Bool} {K:AV->OP}:za .neq .bool (.bool a) (.bool b) K=K (.bool (a != b)):=by cases a <;> cases b <;> exact nr rfl
abbrev D (m:Nat):AV:=I (m:Int)
def jm (l:List Nat):AV:=.lst 1 l.length (l.map D)
theorem zdf (l:List Nat):∀ v∈l.map D,rU v=true:=λv hv=>by obtain ⟨x,_,rfl⟩:=List.mem_map.1 hv;rfl
theorem gU (l:List Nat):rU (jm l)=true:=wA (zdf l)
theorem dGet {l:List Nat} {i x:Nat} (h:l[i]? = some x):(l.map D)[i]? = some (D x):=by rw [List.getElem?_map,h];rfl
theorem dLen {l:List Nat} {K:AV->OP}:sLen (jm l) K=K (I l.length):=yA ..
theorem dIx {l:List Nat} {i:Nat} {j:Int} {op:AV->OP} (hj:j=(i:Int)) (hi:i<l.length):zH 1 (jm l) (I j) op=op (.fp ((l.map D).drop (i*1))):=fE hj hi
theorem dLd {l:List Nat} {i x:Nat} {h:T Blk} {op:AV->OP} (hx:l[i]? = some x):zE (.fp ((l.map D).drop (i*1))) h op=op (D x):=ldL (dGet hx)
theorem Hp.letD {h0 h:T Blk} {nx:Pa} {L:List Ob} {id:Pa} {l:List Nat} {n:Nat} (H:Hp h0 h nx (.arr id (l.map D)::L)) (hn:l.length=n):∃ h',kP h' h/\Hp h0 h' nx L/\tQ h' h (.sl id 0 n (some n) 1) (jm l):=by
 subst hn;exact ⟨_,pL,H.zxf,qj.frz (H.own _ (Zaj ..)) (T.get_set_same _ _ _ _) (Zag _) (by simp) (zdf l)⟩
theorem zzf {l:List Nat} {i:Nat} {op:AV->OP} (hl:1<=l.length) (hi:i<=l.length):vJ 1 (jm l) none (some (I (i:Int))) none op=op (jm (l.take i)):=by
 show (bif Nat.beq 1 1&&Nat.ble 1 l.length then (match bnd (some (I (i:Int))) l.length l.length with | none=>Out.no 17 | some h=>match bnd none h 0 with | none=>.no 17 | some q=>op (.lst 1 (h-q) (((l.map D).drop (q*1)).take ((h-q)*1)))) else .no 17)=_;rw [Zae hl];have:bnd (some (I (i:Int))) l.length l.length=some i:=by
  show (bif Nat.ble i l.length then some i else none)=_;rw [Zae hi];rfl
 rw [this];show op (.lst 1 (i-0) (((l.map D).drop (0*1)).take ((i-0)*1)))=_;unfold jm;rw [Zan,Zbu hi,Zev];simp
theorem Hp.oK {h0 h:T Blk} {nx:Pa} {L:List Ob} (H:Hp h0 h nx L) (e:Nat):Hp h0 h nx (.gro none e 0 []::L) :=
  ⟨H.keep,fun x hx=>by rcases List.mem_cons.1 hx with rfl | q;· exact ⟨rfl,rfl⟩
                       . exact H.own x q,λn hn=>H.off n (by simpa [Ob.names] using hn),by have:=H.nd;simpa [Ob.names] using this,H.fr⟩
theorem xR {l:List Nat} (hd:Dg 1000000000 l) (hl:l.length<=1000000):Pure Tryz.prog B 269 [jm l] (· = jm (dg 1000000000 (bv 1000000000 l))):=by
 refine zX λh nx K H0 hK=>zN zQ yD 1000010 λhf => ?_;rw [uf.go,uf.t12,zA,uf.zy,zA,zK];refine uf.t7_L (λm x0 h' nx'=>x0=jm (l.take m)/\m<=l.length/\bv 1000000000 (l.take m)=bv 1000000000 l/\Hp h h' nx' []) (m:=l.length) (by omega) ⟨by rw [Zet],by omega,by rw [Zet],H0⟩ ?_;rintro m z0 z2 h3 nx3 R ⟨rfl,hm,hb,H3⟩ hR;have fin:Nm (l.take m)->K (jm (l.take m)) h3 nx3=.ok True:=λhn=>hK _ _ _ _ _ H3 (zT (gU _)) (by rw [<- hb,<- bO (by decide) hd.take hn]);have hlen:(l.take m).length=m:=by rw [Zan];omega
 rw [uf.t6,zA,zA,uf.zx,uf.si,uf.sj,dLen,xq,hlen];cases m with
 | zero =>
  rw [Zaa (by omega)];simp only [jA];rw [uf.sQ,uf.fZ];simp only [jA,zY];rw [zB,uf.v2,zC,zZ,yE,zA,uf.fK];simp only [zI,zO];rw [uf.ret];exact fin (by simp [Nm])
 | succ k =>
  have e:l[k]? = some (l.getD k 0):=getD_some (by omega);have e':(l.take (k+1))[k]? = some (l.getD k 0):=by rw [List.getElem?_take_of_lt (by omega),e]
  rw [Zab (by omega)];simp only [yH];rw [dLen,hlen,kz (by omega),uf.sQ,uf.fZ];simp only [yH];rw [dIx (i:=k) (by omega) (by omega),dLd e',dh,zW,zB,uf.v2];by_cases d:l.getD k 0=0
  .rw [Zab (by omega),zD,zG,zK,uf.fJ,dLen,hlen,kz (by omega),show ((k+1:Nat):Int)-1=((k:Nat):Int) by omega,zzf (by omega) (by omega),List.take_take,Zbu (by omega)];refine hR k _ _ _ _ (by omega) ⟨rfl,by omega,?_,H3⟩;rw [qJ e,d] at hb;simpa using hb
  .rw [Zaa (by omega),zC,zZ,yE,zA,uf.fK];simp only [zI,zO];rw [uf.ret];exact fin (zut e d)
theorem zb6 {l:List Nat} {i:Nat}:Pure Tryz.prog B 271 [jm l,I (i:Int)] (· = D (l.getD i 0)):=by
 refine zX λh nx K H0 hK=>zN zQ yD 100 λhf => ?_;rw [pu.go,pu.t9,zA,pu.zy,zA,zA,pu.zx,dLen,ji,zB,pu.v3];by_cases c:i<l.length
 .rw [Zab (by omega),zD,zA,pu.je,dIx (i:=i) rfl c,dLd (getD_some c)];simp only [zI,zO];rw [pu.ret];exact hK _ _ _ _ _ H0 (zT rfl) rfl
 .rw [Zaa (by omega),zC,zG,zA,pu.qi];simp only [zI,zO];rw [pu.ret];exact hK _ _ _ _ _ H0 (zT rfl) (by rw [Zac,List.getElem?_eq_none (by omega)];rfl)
def sS (z:Int):AV:=.agg [.bool (decide (z<0)),jm (dg 1000000000 z.natAbs)]
theorem zzg {b:Bool} {l:List Nat} {K:AV->OP}:uT [(.bool false),.ze] [(0,1,.bool b),(1,1,jm l)] K=K (.agg [.bool b,jm l]):=nr rfl
theorem dAgg {N:Pa->Prop} {O:AV->Prop} {hh:T Blk} {b:Bool} {l:List Nat}:Frz True N O hh (.agg [.bool b,jm l]) (.agg [.bool b,jm l]):=aP λv hv=>by
 simp only [Zap,List.not_mem_nil,or_false] at hv;rcases hv with rfl | rfl
 .rfl
 .exact gU l
theorem zb7 {n:Nat} (h:n≠0):1<=(dg 1000000000 n).length:=by rw [uV (by decide) h];simp
theorem uK {b:Bool} {l:List Nat} (hd:Dg 1000000000 l) (hl:l.length<=1000000):Pure Tryz.prog B 214 [.bool b,jm l] (· = sS (if b then -(bv 1000000000 l:Int) else (bv 1000000000 l:Int))):=by
 refine zX λh nx K H0 hK=>zN zQ yD 100 λhf => ?_;rw [fA.go,fA.t5,zA,fA.zy];refine H0.alloc λp h1 nx1 H1 => ?_;rw [zA,fA.zx];refine xR hd hl _ _ _ _ ?_;rintro _ rfl _;rw [zA,fA.je];have key:∀ c:Bool,c=(b&&decide (0<bv 1000000000 l))->(uT [(.bool false),.ze] [(0,1,.bool c),(1,1,jm (dg 1000000000 (bv 1000000000 l)))] λv5=>zV 2 (.ptr p 0) v5 h1 nx1 λv6 h7 n8=>IR.run .ret (CS Tryz.prog B) 100 (fnO fA.res K) (zi fA.res K) (fA.fr (.bool b) (jm (dg 1000000000 (bv 1000000000 l))) (.ptr p 0)) h7 n8)=.ok True:=by
  intro c hc;rw [zzg];refine H1.jd (l2:=[.bool c,jm (dg 1000000000 (bv 1000000000 l))]) (k:=0) rfl rfl rfl λh2 H2 => ?_;simp only [zI,zO];rw [fA.ret,H2.zw (k:=0) (n:=2) rfl rfl];refine hK _ _ _ _ _ H2 dAgg ?_;unfold sS;subst hc;cases b with
  | false=>rw [if_neg (by decide),Zbp,Zaa (show ¬ ((bv 1000000000 l:Int)<0) by omega)];rfl
  | true =>
   rw [if_pos rfl,Zeb,Zbp,Bool.true_and]
   congr 3
   exact decide_eq_decide.2 (by omega)
 cases b with
 | false =>
  simp only [jA,zY];exact key _ rfl
 | true =>
  simp only [yH];rw [dLen,xq,zW];refine key _ ?_;rw [Bool.true_and];refine decide_eq_decide.2 ?_;rcases Zbx (bv 1000000000 l) with q | q
  .rw [q,j3];simp
  .have:=zb7 (n:=bv 1000000000 l) (by omega);omega
theorem zkq {a b:List Nat} (ha:a.length<=1000000) (hb:b.length<=1000000):Pure Tryz.prog B 216 [jm a,jm b] (· = I (cmpW a b)):=by
 refine zX λh nx K H0 hK=>zN zQ yD 1000010 λhf' => ?_;have ret:∀ {h1 nx1 L} {z:Int},Hp h h1 nx1 L->z=cmpW a b->K (I z) h1 nx1=.ok True:=λH e=>hK _ _ _ _ _ H (zT rfl) (by rw [e]);rw [yo.go,yo.t38,zA,yo.zy,zA,zA,yo.zx,dLen,dLen,fD,zB,yo.v4];by_cases c:a.length=b.length
 case neg =>
  rw [Zaa (by omega),Zam,zD,zA,zA,yo.je,dLen,dLen,ji,zB,yo.v5];by_cases d:a.length<b.length
  .rw [Zab (by omega),zD,zA,yo.pq];simp only [zI,zO];rw [yo.ret];exact ret H0 (by rw [cmpW,if_pos c,if_pos d])
  .rw [Zaa (by omega),zC,zG,zA,yo.fC];simp only [zI,zO];rw [yo.ret];exact ret H0 (by rw [cmpW,if_pos c,if_neg d])
 rw [Zab (by omega),Zak,zC,zG,zA,zA,yo.rP,dLen,kz (by omega),zK];refine yo.zm4 (λm x3 h' nx'=>∃ k:Nat,x3=I ((k:Int)-1)/\m=k/\k<=a.length/\cmpT a b k=cmpT a b a.length/\Hp h h' nx' []) (m:=a.length) (by omega) ⟨a.length,rfl,rfl,by omega,rfl,H0⟩ ?_;rintro m z2 z3 z6 z7 z8 h3 nx3 R ⟨k,rfl,rfl,hk,hc,H3⟩ hR;rw [yo.t30,zA,zA,yo.fU,fe];cases m with
 | zero =>
  rw [Zaa (by omega),zB,yo.v6,zC,zZ,yE,zA,yo.zab];simp only [zI,zO];rw [yo.ret];exact ret H3 (by rw [cmpW,if_neg (λq=>q c),<- hc];rfl)
 | succ k =>
  have ea:=getD_some (l:=a) (k:=k) (by omega);have eb:=getD_some (l:=b) (k:=k) (by omega);rw [cmpT] at hc;rw [Zab (by omega),zB,yo.v6,zD,zG,zA,zK,zA,zA,yo.aI,dIx (i:=k) (by omega) (by omega),dLd ea,dIx (i:=k) (by omega) (by omega),dLd eb,ji,zB,yo.v7];by_cases e:a.getD k 0<b.getD k 0
  .rw [if_neg (by omega),if_pos e] at hc;rw [Zab (by omega),zD,zA,yo.rX];simp only [zI,xA,zO];rw [yo.ret];exact ret H3 (by rw [cmpW,if_neg (λq=>q c),<- hc])
  rw [Zaa (by omega),zC,zG,zA,yo.zm3,dIx (i:=k) (by omega) (by omega),dLd ea,dIx (i:=k) (by omega) (by omega),dLd eb,xq,zB,yo.v8];by_cases d:a.getD k 0=b.getD k 0
  .rw [if_pos d] at hc;rw [Zaa (by omega),zC,zG,yo.zfj,kz (by omega)];exact hR k _ _ _ _ _ _ _ (by omega) ⟨k,by congr 1;omega,rfl,by omega,hc,H3⟩
  .rw [if_neg d,if_neg e] at hc;rw [Zab (by omega),zD,zA,yo.aX];simp only [zI,xA,zO];rw [yo.ret];exact ret H3 (by rw [cmpW,if_neg (λq=>q c),<- hc])
theorem vC {a b:Int} {K:AV->OP} (ha : -9223372036854775808<=a/\a<=9223372036854775807) (hb:1<=b):za .quo .int (I a) (I b) K=K (I (a.tdiv b)):=by
 have e:za .quo .int (I a) (I b) K=(bif ieq b 0 then Out.no 5 else wm (IntKind.i64.wrap (a.tdiv b)) λz=>K (.int .i64 z)):=rfl;have h0:ieq b 0=false:=by rw [vV];exact Zaa (by omega)
 rw [e,h0,cond_false,jS,Go.IntWalk.i64_quo' a b ⟨ha.1,ha.2,hb⟩]
theorem vK {a b:Int} {K:AV->OP} (hb:1<=b):za .rem .int (I a) (I b) K=K (I (a.tmod b)):=by
 have e:za .rem .int (I a) (I b) K=(bif ieq b 0 then Out.no 5 else wm (a.tmod b) λz=>K (.int .i64 z)):=rfl;have h0:ieq b 0=false:=by rw [vV];exact Zaa (by omega)
 rw [e,h0,cond_false,jS]
theorem Hp.zdg {h0 h:T Blk} {nx:Pa} {L:List Ob} {o:Option Pa} {n bytes:Nat} {l:List AV} {z v:AV} {K:Kw Prop} (H:Hp h0 h nx (.gro o 1 n l::L)) (hn:n+1<=1000000) (hb:bytes*1000000<=70368744177664) (hv:v.cells=some [v]) (hs:qf v=true)
  (hK:∀ o' h' nx',Hp h0 h' nx' (.gro o' 1 (n+1) (l++[v])::L)->K (xg o' 1 (n+1)) h' nx'=.ok True) :
  (yZ 1 1 [z] [(0,1,v)] h nx λv2 h3 n4=>sO 1 bytes (xg o 1 n) v2 h3 n4 K)=.ok True:=by
 have fill:gB (fM 1 [z]) [(0,1,v)]=some [v]:=by simp only [gB,hv];rfl
 refine H.mq (l:=[v]) fill λid h1 n1 H1 => ?_;refine H1.appN (k:=1) (new:=[v]) (c:=1) rfl ((H1.own _ (Zaj ..)).rd (n:=1) (e:=1) rfl) rfl (by simp [hs]) (by omega) hb hn λo' h2 n2 _ H2 => ?_;exact hK o' h2 n2 (Hp.drop H2)
theorem zkr {a b:List Nat} {N:Nat} (hN:0<N) (ha:Dg N a) {i:Nat}:a.getD i 0<N:=by
 by_cases c:i<a.length
 .exact ha _ (Zad (getD_some c))
 .rw [Zac,List.getElem?_eq_none (by omega)];exact hN
theorem zhd {a:List Nat} {i:Nat} (h:a.length<=i):a.getD i 0=0:=by rw [Zac,List.getElem?_eq_none h];rfl
theorem zev {a b:List Nat} (hda:Dg 1000000000 a) (hdb:Dg 1000000000 b) (ha:a.length<=100000) (hb:b.length<=100000) :
  Pure Tryz.prog B 215 [jm a,jm b] (λv=>∃ Z:List Nat,v=jm Z/\Dg 1000000000 Z/\bv 1000000000 Z=bv 1000000000 a+bv 1000000000 b/\Z.length<=max a.length b.length+1):=by
 refine zX λh nx K H0 hK=>zN zQ yD 1000010 λhf => ?_;rw [yg.go,yg.t24,zA,yg.zy,zA,yg.zx,zA,yg.je,zA,zA,yg.pq,zK]
 generalize hM:max a.length b.length=M at *
 have hMa:a.length<=M:=by omega
 have hMb:b.length<=M:=by omega
 have hM':M<=100000:=by omega
 refine yg.aL (λm x3 x4 x5 h' nx'=>∃ (i c:Nat) (Z:List Nat) (o:Option Pa),x3=xg o 1 i/\x4=I (c:Int)/\x5=I (i:Int)/\m+i=M+1/\Z.length=i/\Dg 1000000000 Z/\c<=1/\(m=0->c=0)/\bv 1000000000 Z+1000000000 ^ i*c=bv 1000000000 (a.take i)+bv 1000000000 (b.take i)/\Hp h h' nx' [.gro o 1 i (Z.map D)]) (m:=M+1) (by omega) ⟨0,0,[],none,rfl,rfl,rfl,rfl,rfl,λ_ h=>by simp at h,by omega,λ_=>rfl,by simp [bv],H0.oK 1⟩ ?_;rintro m z3 z4 z5 z6 z7 h3 nx3 R ⟨i,c,Z,o,rfl,rfl,rfl,hm,hZ,hd,hc,hc0,hs,H3⟩ hR;have hx:a.getD i 0<1000000000:=zkr (b:=b) (by decide) hda;have hy:b.getD i 0<1000000000:=zkr (b:=b) (by decide) hdb;have go:1<=m->yg.t5.run (CS Tryz.prog B) 1000010 ((fnO yg.res K).blk 0 (yg.t20.run (CS Tryz.prog B) 1000010 (fnO yg.res K) (zi yg.res K))) (yg.t14.run (CS Tryz.prog B) 1000010 ((fnO yg.res K).blk 0 (yg.t20.run (CS Tryz.prog B) 1000010 (fnO yg.res K) (zi yg.res K))) R) (yg.fr (jm a) (jm b) AV.ze (xg o 1 i) (I (c:Int)) (I (i:Int)) z6 (.bool true)) h3 nx3=.ok True:=by
  intro m1;rw [yg.t5,zB,yg.v7,zD,zG,yg.t14,zA,zK,zA,yg.fC];refine zb6 _ _ _ _ ?_;rintro _ rfl _;refine zb6 _ _ _ _ ?_;rintro _ rfl _
  generalize hX:a.getD i 0=x at *
  generalize hY:b.getD i 0=y at *
  rw [jc (by omega),jc (by omega),zA,yg.fH,vK (by omega),show ((x:Int)+(y:Int)+(c:Int)).tmod 1000000000=(((x+y+c)%1000000000:Nat):Int) by rw [Zcc (by omega)];omega];refine H3.zdg (v:=D ((x+y+c)%1000000000)) (by omega) (by decide) rfl rfl λo' h4 n4 H4 => ?_;rw [yg.fK,vC (by omega) (by omega),show ((x:Int)+(y:Int)+(c:Int)).tdiv 1000000000=(((x+y+c) / 1000000000:Nat):Int) by rw [Zcd (by omega)];omega,yg.fU,jc (by omega)];refine hR (m-1) _ _ _ _ _ _ _ (by omega) ⟨i+1,(x+y+c) / 1000000000,Z++[(x+y+c)%1000000000],o',rfl,rfl,rfl,by omega,by simp [hZ],hd.append (Dg.one (Zby _ (by decide))),zg9 hx hy hc,λq => ?_,?_,by rw [Zbb];exact H4⟩
  .have ex:x=0:=by rw [<- hX];exact zhd (by omega)
   have ey:y=0:=by rw [<- hY];exact zhd (by omega)
   subst ex;subst ey;omega
  .rw [uG,hZ,yO,yO,hX,hY,Zbr];exact zha hs
 rw [yg.t15,zA,zA,yg.fJ,yg.aZ,yg.eu,dLen,ji];by_cases e1:i<a.length
 .rw [Zab (by omega)];simp only [jC,uF];rw [yg.oU,yg.aj];simp only [jC,uF,zW];exact go (by omega)
 rw [Zaa (by omega)];simp only [yI];rw [dLen,yg.oU,yg.aj];simp only [yI];rw [ji];by_cases e2:i<b.length
 .rw [Zab (by omega)];simp only [zY,jC,uF,zW];exact go (by omega)
 rw [Zaa (by omega)];simp only [zY,yI];rw [xq];by_cases e3:0<c
 .rw [Zab (by omega)];exact go (by omega)
 obtain rfl:c=0:=by omega
 rw [Zaa (by omega),yg.t5,zB,yg.v7,zC,zZ,yE,yg.t20,zA,yg.sV];simp only [zI,zO];rw [yg.ret];refine hK _ _ _ _ _ H3 (H3.zbt (k:=0) rfl (zdf Z)) ⟨Z,by rw [jm,hZ],hd,?_,by omega⟩;rw [Zaf (by omega),Zaf (by omega)] at hs;omega
theorem Hp.zew {h0 h:T Blk} {nx:Pa} {L:List Ob} {o:Option Pa} {n:Nat} {Z:List Nat} (H:Hp h0 h nx (.gro o 1 n (Z.map D)::L)) (hn:Z.length=n):∃ h',kP h' h/\Hp h0 h' nx L/\tQ h' h (xg o 1 n) (jm Z):=by
 obtain ⟨h',a,b,c⟩:=H.zqa (zdf Z);exact ⟨h',a,b,by rw [jm,hn];exact c⟩
theorem pW {a b:List Nat} (hda:Dg 1000000000 a) (hdb:Dg 1000000000 b) (ha:a.length<=100000) (hb:b.length<=a.length) (hv:bv 1000000000 b<=bv 1000000000 a) :
  Pure Tryz.prog B 217 [jm a,jm b] (· = jm (dg 1000000000 (bv 1000000000 a-bv 1000000000 b))):=by
 refine zX λh nx K H0 hK=>zN zQ yD 1000010 λhf => ?_;rw [yj.go,yj.t31,zA,yj.zy,zA,yj.zx,zA,yj.je,zA,zA,yj.pq,zK];refine yj.zm5 (λm x3 x4 x5 h' nx'=>∃ (i c:Nat) (Z:List Nat) (o:Option Pa),x3=xg o 1 i/\x4=I (c:Int)/\x5=I (i:Int)/\m+i=a.length/\Z.length=i/\Dg 1000000000 Z/\c<=1/\bv 1000000000 Z+bv 1000000000 (b.take i)=bv 1000000000 (a.take i)+1000000000 ^ i*c/\Hp h h' nx' [.gro o 1 i (Z.map D)]) (m:=a.length) (by omega) ⟨0,0,[],none,rfl,rfl,rfl,rfl,rfl,λ_ h=>by simp at h,by omega,by simp [bv],H0.oK 1⟩ ?_;rintro m z3 z4 z5 z6 z7 z8 h3 nx3 R ⟨i,c,Z,o,rfl,rfl,rfl,hm,hZ,hd,hc,hs,H3⟩ hR;rw [yj.t22,zA,zA,yj.fJ,dLen,ji];by_cases ci:i<a.length
 case neg =>
  rw [Zaa (by omega),zB,yj.v7,zC,zZ,yE,yj.t27,zA,yj.zm6];obtain ⟨h5,hkp,H5,hF⟩:=H3.zew hZ;refine vB hkp (.cons hF .nil) ?_;refine xR hd (by omega) _ _ _ _ ?_;rintro _ rfl _;simp only [zI,zO];rw [yj.ret];refine hK _ _ _ _ _ H5 (zT (gU _)) ?_;rw [Zaf (by omega),Zaf (by omega)] at hs;have hlt:=vE (b:=1000000000) (by decide) hd;rw [hZ] at hlt;have c0:c=0:=by
   rcases Zbx c with q | q
   .exact q
   .have:1000000000 ^ i*1<=1000000000 ^ i*c:=Zbd _ q;omega
  subst c0
  congr 2
  omega
 have ex:=getD_some (l:=a) (k:=i) ci;have hx:a.getD i 0<1000000000:=zkr (b:=b) (by decide) hda;have hy:b.getD i 0<1000000000:=zkr (b:=b) (by decide) hdb;rw [Zab (by omega),zB,yj.v7,zD,zG,zA,zK,zA,yj.fC,dIx (i:=i) rfl ci,dLd ex];refine zb6 _ _ _ _ ?_;rintro _ rfl _;simp only [zF];rw [dLd ex];simp only [zF];rw [dIx (i:=i) rfl ci];simp only [zF];have hst:=zme (P:=1000000000 ^ i) hx hy hc hs (by decide)
 generalize hX:a.getD i 0=x at *
 generalize hY:b.getD i 0=y at *
 rw [kz (by omega),kz (by omega),zA,yj.fH,zA,zA,yj.fK,ji];have fin:∀ (z:Int) (k:Nat) (z7 z8:AV),z=(((x+1000000000-y-c)%1000000000:Nat):Int)->k=(if x<y+c then 1 else 0)->yj.t15.run (CS Tryz.prog B) 1000010 ((fnO yj.res K).blk 0 (yj.t27.run (CS Tryz.prog B) 1000010 (fnO yj.res K) (zi yj.res K))) (yj.t20.run (CS Tryz.prog B) 1000010 ((fnO yj.res K).blk 0 (yj.t27.run (CS Tryz.prog B) 1000010 (fnO yj.res K) (zi yj.res K))) R) (yj.fr (jm a) (jm b) AV.ze (xg o 1 i) (I (k:Int)) (I (i:Int)) (I z) z7 z8) h3 nx3=.ok True:=by
  rintro _ k z7 z8 rfl hk;rw [<- hk] at hst;rw [yj.oC];refine H3.zdg (v:=D ((x+1000000000-y-c)%1000000000)) (by omega) (by decide) rfl rfl λo' h4 n4 H4 => ?_;rw [yj.ah,jc (by omega)];refine hR (m-1) _ _ _ _ _ _ _ _ (by omega) ⟨i+1,k,Z++[(x+1000000000-y-c)%1000000000],o',rfl,rfl,rfl,by omega,by simp [hZ],hd.append (Dg.one (Zby _ (by decide))),by rw [hk];split <;> omega,?_,by rw [Zbb];exact H4⟩;rw [uG,hZ,yO,yO,hX,hY,Zbr];exact hst
 by_cases d:x<y+c
 .rw [Zab (by omega),zB,yj.v8,zD,zA,yj.fT,jc (by omega),yj.di];exact fin _ 1 _ _ (by omega) (by rw [if_pos d])
 .rw [Zaa (by omega),zB,yj.v8,zC,zG];exact fin _ 0 _ _ (by omega) (by rw [if_neg d])
theorem sMkD {n:Nat} {x:Int} {h0 h:T Blk} {nx:Pa} {L:List Ob} {K:Kw Prop} (H:Hp h0 h nx L) (hx:x=(n:Int)) (hn:n<=1000000)
  (hK:∀ id h' nx',Hp h0 h' nx' (.arr id ((List.replicate n 0).map D)::L)->K (.sl id 0 n (some n) 1) h' nx'=.ok True):kC 1 8 [(I 0)] (I x) (I x) h nx K=.ok True :=
 H.mk1 n hx hx hn (by omega) λid h' nx' H'=>hK id h' nx' (by rw [List.map_replicate];exact H')
theorem cA {l:List Nat} {d:Nat} (hd:1<=d) (hdN:d<1000000000) (hl:Dg 1000000000 l) (hs:l.length<=100000):Pure Tryz.prog B 268 [jm l,D d] (· = .tup [jm (dg 1000000000 (bv 1000000000 l / d)),D (bv 1000000000 l%d)]):=by
 refine zX λh nx K H0 hK=>zN zQ yD 1000010 λhf => ?_;rw [jh.go,jh.t24,zA,jh.zy,zA,jh.zx,dLen];refine sMkD (n:=l.length) H0 rfl (by omega) λid h1 nx1 H1 => ?_;rw [zA,jh.je,zA,zA,jh.pq,dLen,kz (by omega),zK];refine jh.aL (λm x5 x6 h' nx'=>∃ (r:Nat) (Q:List Nat),x5=D r/\x6=I ((m:Int)-1)/\m<=l.length/\Q.length=l.length-m/\Dg 1000000000 Q/\r<d/\bv 1000000000 (l.drop m)=bv 1000000000 Q*d+r/\Hp h h' nx' [.arr id ((List.replicate m 0++Q).map D)]) (m:=l.length) (by omega) ⟨0,[],rfl,rfl,by omega,by simp,λ_ h=>by simp at h,by omega,by simp [bv],by simpa using H1⟩ ?_;rintro m z5 z6 z7 z8 h3 nx3 R ⟨r,Q,rfl,rfl,hm,hQ,hdQ,hr,hv,H3⟩ hR;rw [jh.t15,zA,zA,jh.fJ,fe];cases m with
 | zero =>
  rw [Zaa (by omega),zB,jh.v8,zC,zZ,yE,zA,jh.sV];simp only [Zey,Zbq] at H3;obtain ⟨h5,hkp,H5,hF⟩:=H3.letD (n:=l.length) (by omega);refine vB hkp (.cons hF .nil) ?_;refine xR hdQ (by omega) _ _ _ _ ?_;rintro _ rfl _;simp only [zI,zO];rw [jh.ret];refine hK _ _ _ _ _ H5 (gJ (zT (gU _)) (zT rfl)) ?_;rw [Zdb] at hv;obtain ⟨a1,a2⟩:=zes hv hr;rw [a1,a2]
 | succ k =>
  have ea:=getD_some (l:=l) (k:=k) (by omega);have haW:=jY (k:=k) (by decide) hl;have e0:l.drop k=l.getD k 0::l.drop (k+1):=by
   have ea:=ea;rw [List.getElem?_eq_getElem (by omega)] at ea;rw [Zaw (by omega),Option.some.inj ea]
  generalize hX:l.getD k 0=x at *
  have hdm:r*1000000000+x=(r*1000000000+x) / d*d+(r*1000000000+x)%d:=by
   rw [Zax _ d];exact (Nat.div_add_mod _ _).symm
  have hqW:(r*1000000000+x) / d<1000000000:=by
   rw [Zep (by omega)];have:(r+1)*1000000000<=d*1000000000:=Zao _ hr;omega
  have hrd:(r*1000000000+x)%d<d:=Zby _ (by omega);have eq1:((r:Int)*1000000000+(x:Int)).tdiv (d:Int)=(((r*1000000000+x) / d:Nat):Int):=by rw [Zcd (by omega)];simp
  have eq2:((r:Int)*1000000000+(x:Int)).tmod (d:Int)=(((r*1000000000+x)%d:Nat):Int):=by rw [Zcc (by omega)];simp
  rw [Zab (by omega),zB,jh.v8,zD,zG,zA,zK,zA,jh.fC,fO (by omega),dIx (i:=k) (by omega) (by omega),dLd ea,jc (by omega),zA,jh.fH];rw [vC (by omega) (by omega),eq1,sIx (i:=k) (by omega) (by omega)];rw [zhb] at H3;refine H3.store (k:=0) rfl (by simp) rfl λh4 H4 => ?_;rw [jh.fK,vK (by omega),eq2]
  generalize hQ':(r*1000000000+x) / d=q at *
  simp only [Zcm] at H4;rw [Zbb,Zcs,qF (by simp)] at H4;rw [jh.fU,kz (by omega)];refine hR k _ _ _ _ _ _ (by omega) ⟨_,q::Q,rfl,by congr 1;omega,by omega,by simp;omega,?_,hrd,?_,by simpa using H4⟩
  .exact (Dg.one hqW).append hdQ
  .rw [e0,bv,bv];exact zrm hv hdm
theorem mulG {a b:List Nat} {xb:AV} {h0 h:T Blk} {nx p0:Pa} {L0:List Ob} {K:Kw Prop} (ha:Dg 1000000000 a) (hb:Dg 1000000000 b) (la:a.length<=100000) (lb:b.length<=100000) (H0:Hp h0 h nx L0)
  (hlen:∀ K:AV->OP,sLen xb K=K (I b.length)) (hix:∀ (h':T Blk) (nx':Pa) (X:Ob) (j:Nat),Hp h0 h' nx' (X::L0)->j<b.length->∃ q:AV,(∀ op:AV->OP,zH 1 xb (I (j:Int)) op=op q)/\∀ op:AV->OP,zE q h' op=op (D (b.getD j 0)))
  (hK:∀ h' nx',Hp h0 h' nx' L0->K (jm (dg 1000000000 (bv 1000000000 a*bv 1000000000 b))) h' nx'=.ok True) :
  (CS Tryz.prog B).fn 218 p0 [jm a,xb] h nx K=.ok True:=by
 refine gE (p:=.of 218) (K:=K) (zN zQ yD 1000010 λhf => ?_) λ_ _ _ _ q=>q;rw [zn.go,zn.t37,zA,zn.zy,zA,zn.zx,dLen,hlen,jc (by omega)];refine sMkD (n:=a.length+b.length) H0 (by omega) (by omega) λid h1 nx1 H1 => ?_;rw [zA,zA,zn.je,zK];refine zn.zz4 (λm x4 h' nx'=>∃ (i:Nat) (Z:List Nat),x4=I (i:Int)/\m+i=a.length/\Z.length=i+b.length/\Dg 1000000000 Z/\bv 1000000000 Z=bv 1000000000 (a.take i)*bv 1000000000 b/\Hp h0 h' nx' (.arr id ((Z++List.replicate m 0).map D)::L0)) (m:=a.length) (by omega) ⟨0,List.replicate b.length 0,rfl,rfl,by simp,Dg.rep (by decide),by rw [zze];simp [bv],by rw [List.replicate_append_replicate,Zcz];exact H1⟩ ?_;rintro m z4 z5 z6 z7 z8 z9 h3 nx3 R ⟨i,Z,rfl,hm,hZ,hd,hs,H3⟩ hR;rw [zn.t29,zA,zA,zn.pq,dLen,ji];by_cases ci:i<a.length
 case neg =>
  have hm0:m=0:=by omega
  subst hm0;rw [Zaa (by omega),zB,zn.v8,zC,zZ,yE,zA,zn.zad];simp only [Zey,Zbj] at H3;obtain ⟨h5,hkp,H5,hF⟩:=H3.letD (n:=a.length+b.length) (by omega);refine vB hkp (.cons hF .nil) ?_;refine xR hd (by omega) _ _ _ _ ?_;rintro _ rfl _;simp only [zI,zO];rw [zn.ret];rw [Zaf (by omega)] at hs;rw [hs];exact hK _ _ H5
 have ex:=getD_some (l:=a) (k:=i) ci;have hxW:=jY (k:=i) (by decide) ha;rw [Zab (by omega),zB,zn.v8,zD,zG,zA,zK,zA,zn.qi,zA,zA,zn.fC,zK];obtain ⟨k,rfl⟩:∃ k,m=k+1:=⟨m-1,by omega⟩
 generalize hx:a.getD i 0=x at *
 refine zn.zz3 (λn x5 x6 h' nx'=>∃ (j c:Nat) (N:List Nat),x5=D c/\x6=I (j:Int)/\n+j=b.length/\c<1000000000/\N.length=i+j/\Dg 1000000000 N/\bv 1000000000 N+1000000000 ^ i*1000000000 ^ j*c=bv 1000000000 (Z.take (i+j))+1000000000 ^ i*(x*bv 1000000000 (b.take j))/\Hp h0 h' nx' (.arr id ((N++(Z.drop (i+j)++List.replicate (k+1) 0)).map D)::L0)) (m:=b.length) (by omega) ⟨0,0,Z.take i,rfl,rfl,rfl,by decide,by simp [hZ],hd.take,by simp [bv],by rw [Zco,<- Zbl,Zcw];exact H3⟩ ?_;rintro n y5 y6 y7 y9 h4 nx4 R4 ⟨j,c,N,rfl,rfl,hn,hc,hN,hdN,hsN,H4⟩ hR4;rw [zn.t19,zA,zA,zn.fH,hlen,ji];by_cases cj:j<b.length
 case neg =>
  have hj:j=b.length:=by omega
  subst hj;rw [show Z.drop (i+b.length)=[] from List.drop_eq_nil_of_le (by omega),Zbq,Zee] at H4;have ld:((N++0::List.replicate k 0).map D)[i+b.length]? = some (D 0):=dGet (by rw [List.getElem?_append_right (by omega),show i+b.length-N.length=0 by omega];rfl);rw [Zaa (by omega),zB,zn.v9,zC,zZ,yE,zn.zfn,zn.zm7,zn.zsz,hlen,jc (by omega),zn.zwx,zn.zs1,hlen,jc (by omega),sIx (i:=i+b.length) (by omega) (by omega),H4.load (k:=0) rfl ld,jc (by omega),sIx (i:=i+b.length) (by omega) (by omega),show ((0:Nat):Int)+(c:Int)=(c:Int) by omega];refine H4.store (k:=0) rfl (by simp;omega) rfl λh5 H5 => ?_;rw [zn.zac,jc (by omega)];refine hR k _ _ _ _ _ _ _ _ (by omega) ⟨i+1,N++[c],by congr 1,by omega,by simp;omega,hdN.append (Dg.one hc),?_,?_⟩
  .rw [uG,hN,Zdf,hsN,Zaf (by omega),Zaf (by omega),hs,yO,hx,Zav,Zbc]
  .simp only [Zcm] at H5;rw [Zbb,Zcs,qF (by rw [Zal];omega)] at H5;rw [Zbb,Zbb,Zbl];exact H5
 obtain ⟨yq,ey1,ey2⟩:=hix h4 nx4 _ j H4 cj;have hyW:=jY (k:=j) (by decide) hb;have ez:=getD_some (l:=Z) (k:=i+j) (by omega);have hzW:=jY (k:=i+j) (by decide) hd
 generalize hy:b.getD j 0=y at *
 generalize hz:Z.getD (i+j) 0=z at *
 have hp:x*y<=999999998000000001:=Zbh (show x<=999999999 by omega) (show y<=999999999 by omega);have hsplit:Z.drop (i+j)++List.replicate (k+1) 0=z::(Z.drop (i+(j+1))++List.replicate (k+1) 0):=by
  rw [Zaw (show i+j<Z.length by omega),Zbw];rw [List.getElem?_eq_getElem (show i+j<Z.length by omega)] at ez;rw [Option.some.inj ez];rfl
 rw [hsplit] at H4;have ld:((N++z::(Z.drop (i+(j+1))++List.replicate (k+1) 0)).map D)[i+j]? = some (D z):=dGet (by rw [List.getElem?_append_right (by omega),show i+j-N.length=0 by omega];rfl);have ep:(x:Int)*(y:Int)=((x*y:Nat):Int):=by simp
 rw [Zab (by omega),zB,zn.v9,zD,zG,zA,zK,zA,zn.di,zn.r7_0,zn.zic,jc (by omega),sIx (i:=i+j) (by omega) (by omega),H4.load (k:=0) rfl ld,zn.r7_1,zn.zdy,dIx (i:=i) rfl ci,dLd ex,ey1,ey2,fO (by rw [ep];omega),ep]
 generalize hpp:x*y=p at *
 rw [jc (by omega),zn.r7_2,zn.zdz,jc (by omega),zA,zn.rP,jc (by omega),vK (by omega),show ((z:Int)+(p:Int)+(c:Int)).tmod 1000000000=(((p+z+c)%1000000000:Nat):Int) by rw [Zcc (by omega)];omega,sIx (i:=i+j) (by omega) (by omega)];refine H4.store (k:=0) rfl (by simp;omega) rfl λh5 H5 => ?_;rw [zn.fU,vC (by omega) (by omega),show ((z:Int)+(p:Int)+(c:Int)).tdiv 1000000000=(((p+z+c) / 1000000000:Nat):Int) by rw [Zcd (by omega)];omega,zn.rX,jc (by omega)];refine hR4 (n-1) _ _ _ _ _ _ (by omega) ⟨j+1,(p+z+c) / 1000000000,N++[(p+z+c)%1000000000],rfl,by congr 1,by omega,?_,by simp;omega,hdN.append (Dg.one (Zby _ (by decide))),?_,?_⟩
 .omega
 .rw [uG,hN,Zdf,show i+(j+1)=(i+j)+1 by omega,yO,yO,hz,hy,Zbr,Zdf];exact zrk hsN hpp.symm
 .simp only [Zcm] at H5;rw [Zbb,Zcs,qF (by rw [Zal];omega)] at H5;rw [Zbb,Zbb,Zbl];exact H5
theorem zex {a b:List Nat} (ha:Dg 1000000000 a) (hb:Dg 1000000000 b) (la:a.length<=100000) (lb:b.length<=100000):Pure Tryz.prog B 218 [jm a,jm b] (· = jm (dg 1000000000 (bv 1000000000 a*bv 1000000000 b))):=by
 refine zX λh nx K H0 hK => ?_;refine mulG ha hb la lb H0 (λK=>dLen) (λh' nx' X j _ hj=>⟨_,λop=>dIx (i:=j) rfl hj,λop=>dLd (getD_some hj)⟩) λh' nx' H' => ?_;exact hK _ _ _ _ _ H' (zT (gU _)) rfl
theorem g_le {b P U V u1 u0 ul v1 v2 vl:Nat} (hU:U=(u1*b+u0)*P+ul) (hV:V=(v1*b+v2)*P+vl) (hvl:vl<P) (h:U<b*V):u1<=v1*b+v2:=by
 rcases Zda (v1*b+v2) u1 with q | q
 .exfalso
  have a1:(v1*b+v2+1)*b<=u1*b:=Zao _ q;have a2:(v1*b+v2+1)*b*P<=(u1*b+u0)*P:=Zao _ (by omega);have a3:V<=(v1*b+v2+1)*P:=by rw [Zav (v1*b+v2),Zdk];omega
  have a4:b*V<=b*((v1*b+v2+1)*P):=Zbd _ a3;have a5:b*((v1*b+v2+1)*P)=(v1*b+v2+1)*b*P:=by rw [<- Zbc,Zax b]
  omega
 .exact q
theorem zro {l:List Nat} {j n i:Nat} (h:i<n):((l.drop j).take n).getD i 0=l.getD (j+i) 0:=by
 rw [Zac,List.getElem?_take_of_lt h,List.getElem?_drop,<- Zac]
theorem zrp {id p0:Pa} {Ul v:List Nat} {j k i0:Nat} {cap:Option Nat} {L:List Ob} {h0 h:T Blk} {nx:Pa} {K:Kw Prop} (H:Hp h0 h nx L) (hi0:L[i0]? = some (.arr id (Ul.map D))) (hk:v.length=k+2) (hj:j+k+2<Ul.length) (hUs:Ul.length<=1000000)
  (hdU:Dg 1000000000 Ul) (hdv:Dg 1000000000 v) (hv1:500000000<=v.getD (k+1) 0) (hlt:bv 1000000000 ((Ul.drop j).take (k+3))<1000000000*bv 1000000000 v)
  (hK:∀ q,q<1000000000->bv 1000000000 ((Ul.drop j).take (k+3))<(q+1)*bv 1000000000 v->q*bv 1000000000 v<=bv 1000000000 ((Ul.drop j).take (k+3))+bv 1000000000 v->K (D q) h nx=.ok True) :
  (CS Tryz.prog B).fn 270 p0 [.sl id 0 Ul.length cap 1,jm v,I (j:Int)] h nx K=.ok True:=by
 refine gE (p:=.of 270) (K:=K) (zN zQ yD 1000000000000000010 λhf => ?_) λ_ _ _ _ q=>q;have hN:1000000000000000001<=1000000000000000010:=by decide
 generalize 1000000000000000010=N at hN ⊢
 generalize hW:(Ul.drop j).take (k+3)=W at *
 have lW:W.length=k+3:=by rw [<- hW,Zan,Zcb];omega
 have hdW:Dg 1000000000 W:=λx hx=>hdU x (Zeu (Zcl (by rw [hW];exact hx)));have dU:=zuu (b:=1000000000) (l:=W) (m:=k) lW;have dV:=zuv (b:=1000000000) (l:=v) (m:=k) hk;have lU:=xY (b:=1000000000) (m:=k) (by decide) hdW (by omega);have lV:=xY (b:=1000000000) (m:=k) (by decide) hdv (by omega);have hu0:=jY (k:=k) (by decide) hdW;have hu1:=jY (k:=k+1) (by decide) hdW;have hu2:=jY (k:=k+2) (by decide) hdW;have hv2:=jY (k:=k) (by decide) hdv;have hv1W:=jY (k:=k+1) (by decide) hdv;have ea:∀ i,i<k+3->W.getD i 0=Ul.getD (j+i) 0:=λi hi=>by rw [<- hW];exact zro hi
 have lw:∀ (i:Nat) (op:AV->OP),i<k+3->zE (.ptr id (j+i)) h op=op (D (W.getD i 0)):=λi op hi=>by
  rw [ea i hi];exact H.load (k:=i0) hi0 (dGet (getD_some (by omega)))
 have lv:∀ (i:Nat) (op:AV->OP),i<k+2->zE (.fp ((v.map D).drop (i*1))) h op=op (D (v.getD i 0)):=λi op hi=>dLd (getD_some (by omega));have l2:=λop=>lw (k+2) op (by omega);have l1:=λop=>lw (k+1) op (by omega);have l0:=λop=>lw k op (by omega);have m1:=λop=>lv (k+1) op (by omega);have m2:=λop=>lv k op (by omega)
 clear lw lv ea
 generalize bv 1000000000 W=UU at *
 generalize bv 1000000000 v=VV at *
 generalize W.getD (k+2) 0=u2 at *
 generalize W.getD (k+1) 0=u1 at *
 generalize W.getD k 0=u0 at *
 generalize v.getD (k+1) 0=v1 at *
 generalize v.getD k 0=v2 at *
 have hu21:u2*1000000000+u1<=999999999999999999:=by omega
 have hule:=g_le dU dV lV hlt;obtain ⟨u,hu⟩:∃ u,u2*1000000000+u1=u:=⟨_,rfl⟩;rw [hu] at hu21 hule dU;have hr0:u / v1*v1+u%v1=u:=by rw [Zax];exact Nat.div_add_mod _ _
 have hm0:=Zby u (show 0<v1 by omega);have hq0:u / v1<1000000000000000000:=by
  have:=Zbz u v1;omega
 rw [zm.go,zm.t26,zA,zm.zy,zA,zm.zx,dLen,hk,zA,zm.je,zm.r2_0,zm.zid,jc (by omega),sIx (i:=j+(k+2)) (by omega) (by omega),l2,fO (by omega),zm.r2_1,zm.zxu,jc (by omega),kz (by omega),sIx (i:=j+(k+1)) (by omega) (by omega),l1,jc (by omega)];rw [show (u2:Int)*1000000000+(u1:Int)=(u:Int) by omega,zA,zm.pq,zm.r3_0,zm.zie,kz (by omega),dIx (i:=k+1) (by omega) (by omega),m1,vC (by omega) (by omega),zm.r3_1,zm.zif,kz (by omega),dIx (i:=k+1) (by omega) (by omega),m1,vK (by omega)];rw [show (u:Int).tdiv (v1:Int)=((u / v1:Nat):Int) by rw [Zcd (by omega)];simp,show (u:Int).tmod (v1:Int)=((u%v1:Nat):Int) by rw [Zcc (by omega)];simp,zA,zK];refine zm.zna (λm x6 x7 h' nx'=>∃ q r:Nat,x6=D q/\x7=D r/\m=q/\q<1000000000000000000/\r<1000000000/\q*v1+r=u/\UU<(q+1)*VV/\h'=h/\nx'=nx) (m:=u / v1) (by omega) ⟨u / v1,u%v1,rfl,rfl,rfl,hq0,by omega,hr0,zus dU lU hu0 dV hr0 hm0,rfl,rfl⟩ ?_;rintro m z3 z6 z7 z8 z9 h3 nx3 R ⟨q,r,rfl,rfl,rfl,hqb,hr,hqr,hq,rfl,rfl⟩ hR;have hq9:m*v2<=4000000000000000000:=by
  have a1:m*500000000<=m*v1:=Zbd _ hv1;have a2:m*v2<=2000000000*1000000000:=Zbh (by omega) (by omega);omega
 have ret:∀ (z3 z8 z9:AV) q r,q*v1+r=u->q<=1000000000->q*v2<=r*1000000000+u0->q<1000000000->UU<(q+1)*VV->K (D q) h3 nx3=.ok True:=λ_ _ _ q r e1 e2 e3 e4 e5=>hK q e4 e5 (zur dU dV lV e1 e2 e3 (by omega));have dec:(1000000000<=m\/r*1000000000+u0<m*v2)->zm.t5.run (CS Tryz.prog B) N ((fnO zm.res K).blk 0 (zm.t21.run (CS Tryz.prog B) N (fnO zm.res K) (zi zm.res K))) (zm.t16.run (CS Tryz.prog B) N ((fnO zm.res K).blk 0 (zm.t21.run (CS Tryz.prog B) N (fnO zm.res K) (zi zm.res K))) R) (zm.fr (.sl id 0 Ul.length cap 1) (jm v) (I (j:Int)) z3 (I ((k+2:Nat):Int)) (I (u:Int)) (D m) (D r) (.bool true) z9) h3 nx3=.ok True:=by
  intro hc;have hlt':UU<m*VV:=by
   rcases hc with c | c
   .have:1000000000*VV<=m*VV:=Zao _ c;omega
   .exact zzc dU lU dV hqr c
  have hm1:1<=m:=by
   rcases Zbx m with e | e
   .subst e;simp at hlt'
   .exact e
  have e2:(m-1)*v1+v1=m*v1:=by rw [<- Nat.succ_mul,Nat.succ_eq_add_one,Zek hm1]
  have e3:(m-1)*v1+(r+v1)=u:=by omega
  have hq1:UU<(m-1+1)*VV:=by rw [Zek hm1];exact hlt'
  rw [zm.t5,zB,zm.v8,zD,zG,zm.t16,zK,zA,zm.fC,kz (by omega),show (m:Int)-1=((m-1:Nat):Int) by omega,zA,zm.fH,kz (by omega),dIx (i:=k+1) (by omega) (by omega),m1,jc (by omega),zA,zm.fK,fe,zB,zm.v9];by_cases cr:1000000000<=r+v1
  .rw [Zab (by omega),zD,zA,zm.fT];simp only [zI,xA,zO];rw [zm.ret];have e5:m-1<1000000000:=by
    rcases Zda (m-1) 1000000000 with c | c
    .exact c
    .exfalso
     have:=Zao v1 c;rw [Zax 1000000000 v1] at this;omega
   have e6:(m-1)*v2<=(r+v1)*1000000000+u0:=by
    have a1:(m-1)*v2<=1000000000*1000000000:=Zbh (by omega) (by omega);have a2:1000000000*1000000000<=(r+v1)*1000000000:=Zao _ cr;omega
   exact ret z3 z3 z3 (m-1) (r+v1) e3 (by omega) e6 e5 hq1
  .rw [Zaa (by omega),zC,zG];exact hR (m-1) _ _ _ _ _ _ _ (by omega) ⟨m-1,r+v1,rfl,rfl,rfl,by omega,by omega,e3,hq1,rfl,rfl⟩
 rw [zm.t17,zA,zA,zm.fJ,zm.aZ,zm.eu,fe];by_cases c1:1000000000<=m
 .rw [Zab (by omega)];simp only [jC,uF];rw [zm.oU,zm.aj];simp only [jC,uF];rw [zm.r4_2,zm.oN];simp only [jC,uF,zW];exact dec (.inl c1)
 rw [Zaa (by omega)];simp only [yI];rw [kz (by omega),dIx (i:=k) (by omega) (by omega),zm.oU,zm.aj];simp only [yI];rw [m2,fO (by rw [show (m:Int)*(v2:Int)=((m*v2:Nat):Int) by simp];omega),show (m:Int)*(v2:Int)=((m*v2:Nat):Int) by simp,fO (by omega),jc (by omega),zm.r4_2,zm.oN];simp only [yI];rw [kz (by omega),sIx (i:=j+k) (by omega) (by omega),l0,jc (by omega),xq];simp only [zY];by_cases c2:r*1000000000+u0<m*v2
 .rw [Zab (by omega)];exact dec (.inr c2)
 rw [Zaa (by omega),zm.t5,zB,zm.v8,zC,zZ,yE,zm.t21,zA,zm.ah];simp only [zI,zO];rw [zm.ret];exact ret z3 z3 z3 m r hqr (by omega) (by omega) (by omega) hq
theorem zey {A X C:List Nat} {n:Nat} {v:AV} (hX:X.length=n):((A++X).map D++v::C.map D)[A.length+n]? = some v:=by
 rw [List.getElem?_append_right (by simp;omega),Zal,Zah,show A.length+n-(A.length+X.length)=0 by omega];rfl
theorem zks {A X C:List Nat} {n:Nat} {v w:AV} (hX:X.length=n):((A++X).map D++v::C.map D).set (A.length+n) w=(A++X).map D++w::C.map D:=by
 rw [qF (by simp;omega)]
theorem zkt {A X Y C:List Nat} {j x:Nat} {v:AV} (hY:Y.length=j):((A++(Y++x::X)).map D++v::C.map D)[A.length+j]? = some (D x):=by
 rw [List.getElem?_append_left (by simp;omega)];refine dGet ?_;rw [List.getElem?_append_right (by omega),List.getElem?_append_right (by omega),show A.length+j-A.length-Y.length=0 by omega];rfl
theorem zku {A X Y C:List Nat} {j x y:Nat} {v:AV} (hY:Y.length=j):((A++(Y++x::X)).map D++v::C.map D).set (A.length+j) (D y)=(A++((Y++[y])++X)).map D++v::C.map D:=by
 rw [List.set_append_left _ _ (by simp;omega)]
 congr 1
 rw [<- Zbl,Zbb,Zcs,qF (by simp;omega)];simp
theorem qcy {A X C v:List Nat} {n N:Nat} {id:Pa} {cap:Option Nat} {L:List Ob} {h0 h:T Blk} {nx:Pa} {O:fP Prop} {R:Ks Prop} {x0 x1 x2 x3 x4 x5 x6 x10 x12 x13 x14 x15 x16 x17 x18 x19 x20 x21 x22 x23 x24 x25 x26 x27 x28:AV}
  (H:Hp h0 h nx (.arr id ((A++X).map D++I (-1)::C.map D)::L)) (hN:1000010<=N) (hX:X.length=n) (hv:v.length=n) (hdX:Dg 1000000000 X) (hdv:Dg 1000000000 v) (hs:A.length+n+1+C.length<=1000000) (hc:1000000000 ^ n<=bv 1000000000 X+bv 1000000000 v)
  (hK:∀ (Y:List Nat) (h':T Blk) (nx':Pa) (x17 x18 x19 x28:AV),Y.length=n->Dg 1000000000 Y->bv 1000000000 Y+1000000000 ^ n=bv 1000000000 X+bv 1000000000 v->Hp h0 h' nx' (.arr id ((A++Y).map D++D 0::C.map D)::L)->R (zb.fr x0 x1 x2 x3 x4 x5 x6 (jm v) (I (n:Int)) (.sl id 0 (A.length+n+1+C.length) cap 1) x10 (I (A.length:Int)) x12 x13 x14 x15 x16 x17 x18 x19 x20 x21 x22 x23 x24 x25 x26 x27 x28) h' nx'=.ok True) :
  IR.run zb.t79 (CS Tryz.prog B) N O R (zb.fr x0 x1 x2 x3 x4 x5 x6 (jm v) (I (n:Int)) (.sl id 0 (A.length+n+1+C.length) cap 1) x10 (I (A.length:Int)) x12 x13 x14 x15 x16 x17 x18 x19 x20 x21 x22 x23 x24 x25 x26 x27 x28) h nx=.ok True:=by
 rw [zb.t79,zA,zb.znl,zA,zA,zb.zj0,zK];refine zb.zz9 (λm x17 x18 h' nx'=>∃ (j c:Nat) (Y:List Nat),x17=D c/\x18=I (j:Int)/\m+j=n/\Y.length=j/\Dg 1000000000 Y/\c<=1/\bv 1000000000 Y+1000000000 ^ j*c=bv 1000000000 (X.take j)+bv 1000000000 (v.take j)/\Hp h0 h' nx' (.arr id ((A++(Y++X.drop j)).map D++I (-1)::C.map D)::L)) (m:=n) (by omega) ⟨0,0,[],rfl,rfl,rfl,rfl,λ_ h=>by simp at h,by omega,by simp [bv],H⟩ ?_;rintro m z17 z18 z19 z28 h3 nx3 R' ⟨j,c,Y,rfl,rfl,hm,hY,hdY,hc1,hsm,H3⟩ hR;rw [zb.t73,zA,zA,zb.zz7,ji];by_cases cj:j<n
 case neg =>
  have hj:j=n:=by omega
  subst hj;rw [Zaf (by omega),Zaf (by omega)] at hsm;have hlt:=vE (b:=1000000000) (by decide) hdY;rw [hY] at hlt;have c1:c=1:=by
   rcases Zbx c with q | q
   .subst q;omega
   .omega
  subst c1;rw [Zbn (by omega),Zbj] at H3;rw [Zaa (by omega),zB,zb.v28,zC,zZ,yE,zb.znr,zb.zns,zb.zs6,jc (by omega),jc (by omega),zb.zww,zb.zs7,sIx (i:=A.length+j) (by omega) (by omega),H3.load (k:=0) rfl (zey hY),jc (by omega),sIx (i:=A.length+j) (by omega) (by omega)];refine H3.store (k:=0) rfl (by simp;omega) rfl λh4 H4 => ?_;simp only [Zcm] at H4;rw [zks hY] at H4;exact hK Y _ _ _ _ _ _ hY hdY (by omega) H4
 have hx:=jY (k:=j) (by decide) hdX;have hy:=jY (k:=j) (by decide) hdv;have e0:X.drop j=X.getD j 0::X.drop (j+1):=by
  have ea:=getD_some (l:=X) (k:=j) (by omega);rw [List.getElem?_eq_getElem (by omega)] at ea;rw [Zaw (by omega),Option.some.inj ea]
 have ey:=getD_some (l:=v) (k:=j) (by omega);have hst:=zha (b:=1000000000) (x:=X.getD j 0) (y:=v.getD j 0) hsm;have hcl:=zg9 hx hy hc1;rw [e0] at H3;have t1:=yO (b:=1000000000) (l:=X) (i:=j);have t2:=yO (b:=1000000000) (l:=v) (i:=j)
 generalize X.getD j 0=x at *
 generalize v.getD j 0=y at *
 rw [Zab (by omega),zB,zb.v28,zD,zG,zA,zK,zA,zb.zz8,zb.znm,zb.zs4,jc (by omega),sIx (i:=A.length+j) (by omega) (by omega),H3.load (k:=0) rfl (zkt hY),zb.zwv,zb.zs5,dIx (i:=j) rfl (by omega),dLd ey,jc (by omega),jc (by omega),zA,zb.zj1,jc (by omega),vK (by omega),show ((x:Int)+(y:Int)+(c:Int)).tmod 1000000000=(((x+y+c)%1000000000:Nat):Int) by rw [Zcc (by omega)];omega,sIx (i:=A.length+j) (by omega) (by omega)];refine H3.store (k:=0) rfl (by simp;omega) rfl λh4 H4 => ?_;simp only [Zcm] at H4;rw [zku hY] at H4;rw [zb.znp,vC (by omega) (by omega),show ((x:Int)+(y:Int)+(c:Int)).tdiv 1000000000=(((x+y+c) / 1000000000:Nat):Int) by rw [Zcd (by omega)];omega,zb.znq,jc (by omega)];refine hR (m-1) _ _ _ _ _ _ (by omega) ⟨j+1,(x+y+c) / 1000000000,Y++[(x+y+c)%1000000000],rfl,rfl,by omega,by simp [hY],hdY.append (Dg.one (Zby _ (by decide))),hcl,?_,H4⟩;rw [uG,hY,t1,t2,Zbr];exact hst
theorem zmg {P b X u v c q Vi Ui:Nat} (h:X+q*Vi=Ui+P*c) (hb:0<b) (hu:u<b) :
  (X+P*((u+b-(q*v+c)%b)%b))+q*(Vi+P*v)=(Ui+P*u)+P*b*((q*v+c) / b+(if u<(q*v+c)%b then 1 else 0)):=by
 have hlo:=Zby (q*v+c) hb;have e1:=Zej (q*v+c) b;have e2:q*(P*v)=P*(q*v):=by rw [<- Zbc,Zax q P,Zbc]
 generalize q*v=p at *
 have e3:(u+b-(p+c)%b)%b+(p+c)%b=u+b*(if u<(p+c)%b then 1 else 0):=by
  by_cases d:u<(p+c)%b
  .rw [if_pos d,Zbs (by omega)];omega
  .rw [if_neg d,show u+b-(p+c)%b=(u-(p+c)%b)+b by omega,Nat.add_mod_right,Zbs (by omega)];omega
 generalize (u+b-(p+c)%b)%b=w at *
 generalize (if u<(p+c)%b then 1 else 0)=z at *
 have a1:=congrArg (P * ·) e3;have a2:=congrArg (P * ·) e1;simp only [Zbf] at a1 a2 ⊢;rw [Zbc P b,Zbc P b,e2];omega
theorem qcz {A X C v:List Nat} {n N q t:Nat} {id:Pa} {cap:Option Nat} {L:List Ob} {h0 h:T Blk} {nx:Pa} {O:fP Prop} {R:Ks Prop} {x0 x1 x2 x3 x4 x5 x6 x10 x13 x14 x15 x16 x17 x18 x19 x20 x21 x22 x23 x24 x25 x26 x27 x28:AV} 
  (H:Hp h0 h nx (.arr id ((A++X).map D++D t::C.map D)::L)) (hN:1000010<=N) (hX:X.length=n) (hv:v.length=n) (hdX:Dg 1000000000 X) (hdv:Dg 1000000000 v) (ht:t<1000000000) (hs:A.length+n+1+C.length<=1000000)
  (hq:q<1000000000) (h1:bv 1000000000 X+1000000000 ^ n*t<(q+1)*bv 1000000000 v) (h2:q*bv 1000000000 v<=bv 1000000000 X+1000000000 ^ n*t+bv 1000000000 v)
  (hK:∀ (Y:List Nat) (h':T Blk) (nx':Pa) (x13 x14 x15 x16 x17 x18 x19 x25 x26 x27 x28:AV),Y.length=n+1->Dg 1000000000 Y->bv 1000000000 Y=(bv 1000000000 X+1000000000 ^ n*t)%bv 1000000000 v->Hp h0 h' nx' (.arr id ((A++(Y++C)).map D)::L)->IR.run zb.t83 (CS Tryz.prog B) N O R (zb.fr x0 x1 x2 x3 x4 x5 x6 (jm v) (I (n:Int)) (.sl id 0 (A.length+n+1+C.length) cap 1) x10 (I (A.length:Int)) (D ((bv 1000000000 X+1000000000 ^ n*t) / bv 1000000000 v)) x13 x14 x15 x16 x17 x18 x19 x20 x21 x22 x23 x24 x25 x26 x27 x28) h' nx'=.ok True) :
  IR.run zb.t87 (CS Tryz.prog B) N O R (zb.fr x0 x1 x2 x3 x4 x5 x6 (jm v) (I (n:Int)) (.sl id 0 (A.length+n+1+C.length) cap 1) x10 (I (A.length:Int)) (D q) x13 x14 x15 x16 x17 x18 x19 x20 x21 x22 x23 x24 x25 x26 x27 x28) h nx=.ok True:=by
 have hVlt:=vE (b:=1000000000) (by decide) hdv;rw [hv] at hVlt;rw [zb.t87,zA,zb.zfs,zA,zA,zb.zft,zK];refine zb.zz6 (λm x13 x14 h' nx'=>∃ (j c:Nat) (Y:List Nat),x13=D c/\x14=I (j:Int)/\m+j=n/\Y.length=j/\Dg 1000000000 Y/\c<=1000000000/\bv 1000000000 Y+q*bv 1000000000 (v.take j)=bv 1000000000 (X.take j)+1000000000 ^ j*c/\Hp h0 h' nx' (.arr id ((A++(Y++X.drop j)).map D++D t::C.map D)::L)) (m:=n) (by omega) ⟨0,0,[],rfl,rfl,rfl,rfl,λ_ h=>by simp at h,by omega,by simp [bv],H⟩ ?_;rintro m z13 z14 z15 z16 z25 z26 h3 nx3 R' ⟨j,c,Y,rfl,rfl,hm,hY,hdY,hc1,hsm,H3⟩ hR;rw [zb.t53,zA,zA,zb.zad,ji];by_cases cj:j<n
 case neg =>
  have hj:j=n:=by omega
  subst hj;rw [Zaf (by omega),Zaf (by omega)] at hsm;have hlt:=vE (b:=1000000000) (by decide) hdY;rw [hY] at hlt;rw [Zbn (by omega),Zbj] at H3;rw [Zaa (by omega),zB,zb.v25,zC,zZ,yE,zb.t85,zA,zb.znf,zb.zng,zb.zs2,jc (by omega),jc (by omega),zb.zwu,zb.zs3,sIx (i:=A.length+j) (by omega) (by omega),H3.load (k:=0) rfl (zey hY),kz (by omega),sIx (i:=A.length+j) (by omega) (by omega)];refine H3.store (k:=0) rfl (by simp;omega) rfl λh4 H4 => ?_;simp only [Zcm] at H4;rw [zks hY] at H4;rw [zA,zA,zb.znj,jc (by omega),sIx (i:=A.length+j) (by omega) (by omega),H4.load (k:=0) rfl (zey hY),ji,zB,zb.v27];have hP:0<1000000000 ^ j:=Zew (by decide);by_cases ct:c<=t
  .have em:1000000000 ^ j*(t-c)+1000000000 ^ j*c=1000000000 ^ j*t:=by rw [<- Zbf,Zek ct]
   obtain ⟨d1,d2⟩:=zes (U:=bv 1000000000 X+1000000000 ^ j*t) (V:=bv 1000000000 v) (q:=q) (r:=bv 1000000000 Y+1000000000 ^ j*(t-c)) (by omega) (by rw [Zav,Zdk] at h1;omega);rw [Zaa (by omega),zC,zG];rw [d1] at hK;refine hK (Y++[t-c]) _ _ _ _ _ _ _ _ _ _ _ _ _ (by simp [hY]) (hdY.append (Dg.one (by omega))) (by rw [uG,hY,d2]) ?_;rw [show (t:Int)-(c:Int)=((t-c:Nat):Int) by omega] at H4;simpa using H4
  .have em:1000000000 ^ j*(c-t)+1000000000 ^ j*t=1000000000 ^ j*c:=by rw [<- Zbf,Zek (by omega)]
   have e1:c-t=1:=by
    rcases Zda 1 (c-t) with k | k
    .exfalso
     have:1000000000 ^ j*2<=1000000000 ^ j*(c-t):=Zbd _ k;omega
    .omega
   rw [e1,Zbo] at em;have hq1:1<=q:=by
    rcases Zbx q with e | e
    .subst e;omega
    .exact e
   have eq1:(q-1)*bv 1000000000 v+bv 1000000000 v=q*bv 1000000000 v:=by rw [<- Nat.succ_mul,Nat.succ_eq_add_one,Zek hq1]
   rw [show (t:Int)-(c:Int) = -1 by omega] at H4 ⊢;rw [Zab (by omega),zD,zA,zb.znk,kz (by omega)];refine qcy H4 hN hY hv hdY hdv hs (by omega) λZ h5 nx5 y17 y18 y19 y28 g1 g2 g3 H5 => ?_;obtain ⟨d1,d2⟩:=zes (U:=bv 1000000000 X+1000000000 ^ j*t) (V:=bv 1000000000 v) (q:=q-1) (r:=bv 1000000000 Z) (by omega) (by omega);rw [d1] at hK;rw [show (q:Int)-1=((q-1:Nat):Int) by omega];refine hK (Z++[0]) _ _ _ _ _ _ _ _ _ _ _ _ _ (by simp [g1]) (g2.append (Dg.one (by decide))) (by rw [uG,d2];omega) ?_;simpa using H5
 have hx:=jY (k:=j) (by decide) hdX;have hy:=jY (k:=j) (by decide) hdv;have e0:X.drop j=X.getD j 0::X.drop (j+1):=by
  have ea:=getD_some (l:=X) (k:=j) (by omega);rw [List.getElem?_eq_getElem (by omega)] at ea;rw [Zaw (by omega),Option.some.inj ea]
 have ey:=getD_some (l:=v) (k:=j) (by omega);have hst:=zmg (b:=1000000000) (u:=X.getD j 0) (v:=v.getD j 0) hsm (by decide) hx;rw [e0] at H3;have t1:=yO (b:=1000000000) (l:=X) (i:=j);have t2:=yO (b:=1000000000) (l:=v) (i:=j)
 generalize X.getD j 0=x at *
 generalize v.getD j 0=y at *
 have hp:q*y<=999999998000000001:=Zbh (show q<=999999999 by omega) (show y<=999999999 by omega);have ep:(q:Int)*(y:Int)=((q*y:Nat):Int):=by simp
 rw [Zab (by omega),zB,zb.v25,zD,zG,zA,zK,zA,zb.zfu,dIx (i:=j) rfl (by omega),dLd ey,fO (by rw [ep];omega),ep];obtain ⟨p,hpp⟩:∃ p,q*y=p:=⟨_,rfl⟩;rw [hpp] at hp hst ⊢;have hdv2:(p+c) / 1000000000<=999999999:=by omega
 rw [jc (by omega),zA,zb.znb,jc (by omega),sIx (i:=A.length+j) (by omega) (by omega),H3.load (k:=0) rfl (zkt hY),vK (by omega),show ((p:Int)+(c:Int)).tmod 1000000000=(((p+c)%1000000000:Nat):Int) by rw [Zcc (by omega)];omega];have hml:=Zby (p+c) (show 0<1000000000 by decide);rw [kz (by omega),zA,zb.znc,vC (by omega) (by omega),show ((p:Int)+(c:Int)).tdiv 1000000000=(((p+c) / 1000000000:Nat):Int) by rw [Zcd (by omega)];omega,zA,zA,zb.zz5,ji,zB,zb.v26]
 generalize (p+c) / 1000000000=hi at *
 generalize (p+c)%1000000000=lo at *
 have fin:∀ (z:Int) (c':Nat) (z15 z25 z26:AV),z=(((x+1000000000-lo)%1000000000:Nat):Int)->c'=hi+(if x<lo then 1 else 0)->zb.t45.run (CS Tryz.prog B) N ((O.blk 4 (zb.t85.run (CS Tryz.prog B) N O R)).blk 5 (zb.t51.run (CS Tryz.prog B) N (O.blk 4 (zb.t85.run (CS Tryz.prog B) N O R)) R')) (zb.t51.run (CS Tryz.prog B) N (O.blk 4 (zb.t85.run (CS Tryz.prog B) N O R)) R') (zb.fr x0 x1 x2 x3 x4 x5 x6 (jm v) (I (n:Int)) (.sl id 0 (A.length+n+1+C.length) cap 1) x10 (I (A.length:Int)) (D q) (I (c':Int)) (I (j:Int)) z15 (I z) x17 x18 x19 x20 x21 x22 x23 x24 z25 z26 x27 x28) h3 nx3=.ok True:=by
  rintro _ c' z15 z25 z26 rfl hc';rw [<- hc'] at hst;rw [zb.znd,jc (by omega),sIx (i:=A.length+j) (by omega) (by omega)];refine H3.store (k:=0) rfl (by simp;omega) rfl λh4 H4 => ?_;simp only [Zcm] at H4;rw [zku hY] at H4;rw [zb.zne,jc (by omega)];refine hR (m-1) _ _ _ _ _ _ _ _ (by omega) ⟨j+1,c',Y++[(x+1000000000-lo)%1000000000],rfl,rfl,by omega,by simp [hY],hdY.append (Dg.one (Zby _ (by decide))),by rw [hc'];split <;> omega,?_,H4⟩;rw [uG,hY,t1,t2,Zbr];exact hst
 by_cases d:x<lo
 .rw [Zab (by omega),zD,zA,zb.zfv,jc (by omega),zb.zfw,jc (by omega)];exact fin _ (hi+1) _ _ _ (by omega) (by rw [if_pos d])
 .rw [Zaa (by omega),zC,zG];exact fin _ hi _ _ _ (by omega) (by rw [if_neg d,Zco])
theorem Hp.appE {h0 h:T Blk} {nx e:Pa} {L:List Ob} {K:Kw Prop} {w:AV} {new:List AV} {c bytes:Nat} (H:Hp h0 h nx (.arr e []::L)) (hr:∀ (no:OP) (K':List AV->Nat->OP),wU w h no K'=K' new c) (hl:new.length=c) (hs:new.all qf=true) (hb:bytes*1000000<=70368744177664) (hc1:1<=c) (hc:c<=1000000)
  (hK:∀ id h' nx',Hp h0 h' nx' (.gro (some id) 1 c new::L)->K (.sl id 0 c none 1) h' nx'=.ok True) :
  sO 1 bytes (.sl e 0 0 (some 0) 1) w h nx K=.ok True:=by
 unfold sO appA;rw [hr];have hcc:(Nat.ble (bytes*1000000) 70368744177664&&Nat.beq new.length (c*1)&&Nat.ble 1 1&&new.all qf)=true:=by
  simp only [Zai,hs,and_true];exact ⟨⟨Zae hb,by rw [hl,Zbo];exact Zbv _⟩,rfl⟩
 rw [hcc,cond_true];obtain ⟨op,t,g1,g2⟩:qj h e []:=H.own _ (Zaj ..);show (bif Nat.beq 1 1&&Nat.ble (0+c) 1000000 then qp (T.get .no e h) _ (.no 35) else .no 36)=_;rw [g1,Zae (by omega)];show (bif Nat.ble (0+c) 0 then (bif Nat.ble (0+(0+c)*1) 0 then wH e 0 0 (some 0) 1 op 0 t new c h nx _ else .no 32) else wG 0 0 1 t new c h nx _)=_;rw [bleF (by omega),cond_false];unfold wG;rw [yP,yJ,Zbi,show yX t 0 (0*1)++new=new from rfl];refine hK nx _ _ (Hp.new (x:=.gro (some nx) 1 c new) H.drop rfl λh' q => ?_);refine ⟨_,by rw [q,hl,Zbo],by rw [hl,Zbo],?_⟩;have:=qR new;rw [hl] at this;rw [Zbo];exact this
theorem Hp.zzh {h0 h:T Blk} {nx id:Pa} {L:List Ob} {n:Nat} {l:List AV} (H:Hp h0 h nx (.gro (some id) 1 n l::L)):Hp h0 h nx (.arr id l::L):=by
 obtain ⟨t,h1,h2,h3⟩:=H.own _ (Zaj ..);rw [Zbo] at h1 h2 h3;refine ⟨H.keep,λx hx => ?_,λn hn=>H.off n (by simpa [Ob.names] using hn),by have:=H.nd;simpa [Ob.names] using this,H.fr⟩;rcases List.mem_cons.1 hx with rfl | q
 .exact ⟨true,t,by rw [h1,h2],by rw [h2];exact h3⟩
 .exact H.own x (Zaq _ q)
theorem Hp.zuw {h0 h:T Blk} {nx:Pa} {L:List Ob} {id:Pa} {l:List Nat} {n:Nat} (H:Hp h0 h nx (.arr id (l.map D)::L)) (hn:n<=l.length):∃ h',kP h' h/\Hp h0 h' nx L/\tQ h' h (.sl id 0 n none 1) (jm (l.take n)):=by
 have e:jm (l.take n)=.lst 1 n ((l.map D).take n):=by unfold jm;rw [Zan,Zbu hn,Zev]
 rw [e];exact ⟨_,pL,H.zxf,qj.zjn (H.own _ (Zaj ..)) (T.get_set_same _ _ _ _) trivial (by simpa using hn) (zdf l)⟩
theorem zrq {b t f:Nat} (ht:1<=t) (htb:t<b) (hf:f=b / (t+1)):1<=f/\f<b/\f*(t+1)<=b/\b<=2*(f*t)+1:=by
 have h1:f*(t+1)<=b:=by rw [hf];exact Nat.div_mul_le_self b (t+1)
 have h2:b<(f+1)*(t+1):=by
  have:=Nat.lt_mul_div_succ b (show 0<t+1 by omega);rw [<- hf,Zax] at this;exact this
 have h3:1<=f:=by
  rw [hf];exact (Zfu (by omega)).2 (by omega)
 refine ⟨h3,?_,h1,?_⟩
 .have:f*2<=f*(t+1):=Zbd _ (by omega);omega
 .-- (f - 1) (t - 1) is not below 0
  obtain ⟨f',rfl⟩:∃ f',f=f'+1:=⟨f-1,by omega⟩;obtain ⟨t',rfl⟩:∃ t',t=t'+1:=⟨t-1,by omega⟩;have e1:(f'+1+1)*(t'+1+1)=f'*t'+2*f'+2*t'+4:=by simp only [Zav,Zbf];omega
  have e2:(f'+1)*(t'+1)=f'*t'+f'+t'+1:=by simp only [Zav,Zbf];omega
  rw [e2];omega
theorem Hp.zzi {h0 h:T Blk} {nx:Pa} {L:List Ob} {id:Pa} {n bytes:Nat} {l:List AV} {z v:AV} {K:Kw Prop} (H:Hp h0 h nx (.gro (some id) 1 n l::L)) (hn:n+1<=1000000) (hb:bytes*1000000<=70368744177664) (hv:v.cells=some [v]) (hs:qf v=true)
  (hK:∀ id' h' nx',Hp h0 h' nx' (.gro (some id') 1 (n+1) (l++[v])::L)->K (.sl id' 0 (n+1) none 1) h' nx'=.ok True) :
  (yZ 1 1 [z] [(0,1,v)] h nx λv2 h3 n4=>sO 1 bytes (.sl id 0 n none 1) v2 h3 n4 K)=.ok True:=by
 have fill:gB (fM 1 [z]) [(0,1,v)]=some [v]:=by simp only [gB,hv];rfl
 refine H.mq (l:=[v]) fill λid1 h1 n1 H1 => ?_;refine H1.appN (k:=1) (o:=some id) (new:=[v]) (c:=1) rfl ((H1.own _ (Zaj ..)).rd (n:=1) (e:=1) rfl) rfl (by simp [hs]) (by omega) hb hn λo' h2 n2 ho H2 => ?_;cases o' with
 | none=>exact absurd rfl (ho (.inr (by omega)))
 | some id'=>exact hK id' h2 n2 (Hp.drop H2)
theorem zxg {h0 h:T Blk} {nx id:Pa} {L:List Ob} {k j n:Nat} {l:List Nat} {cap:Option Nat} (H:Hp h0 h nx L) (hk:L[k]? = some (.arr id (l.map D))) (hn:l.length=n) (hj:j<n) :
  ∃ q:AV,(∀ op:AV->OP,zH 1 (.sl id 0 n cap 1) (I (j:Int)) op=op q)/\∀ op:AV->OP,zE q h op=op (D (l.getD j 0)) :=
 ⟨.ptr id j,λop=>sIx rfl hj,λop=>H.load hk (dGet (getD_some (by omega)))⟩
theorem qc0 {id:Pa} {n i:Nat} {op:AV->OP} (hi:i<=n):vJ 1 (.sl id 0 n none 1) none (some (I (i:Int))) none op=op (.sl id 0 i none 1):=by
 have e:vJ 1 (.sl id 0 n none 1) none (some (I (i:Int))) none op=(match bnd (some (I (i:Int))) n n with
  | none=>Out.no 17
  | some h=>op (.sl id 0 h none 1)):=rfl
 rw [e,wF hi]
theorem zrr {l:List Nat} {k n:Nat} (h:k+n<l.length):l=l.take k++((l.drop k).take n++l.getD (k+n) 0::l.drop (k+n+1)):=by
 have ea:=getD_some (l:=l) (k:=k+n) h;rw [List.getElem?_eq_getElem h] at ea;rw [<- Option.some.inj ea,<- Zaw h,<- Zea,Zcw,Zcw]
theorem win_snoc {l:List Nat} {k n:Nat} (h:k+n<l.length):(l.drop k).take (n+1)=(l.drop k).take n++[l.getD (k+n) 0]:=by
 have ea:=getD_some (l:=l) (k:=k+n) h;rw [Zar,List.getElem?_drop,ea];rfl
theorem zux {a d m:Nat} {h:T Blk} {nx:Pa} {K:Kw Prop} {Kq:Ks Prop} {x2 x3 x4 x5 x6 x7 x8 x9 x10 x11 x12 x13 x14 x15 x16 x17 x18 x19 x20 x21 x22 x23 x24 x25 x26 x27 x28:AV} (H0:Hp h h nx []) (ha:(dg 1000000000 a).length<=99990) (hds:(dg 1000000000 d).length=m+2) (hla:(dg 1000000000 d).length<=(dg 1000000000 a).length)
  (hK:∀ v h' nx' L v',Hp h h' nx' L->tQ h h' v v'->v'=.tup [jm (dg 1000000000 (a / d)),jm (dg 1000000000 (a%d))]->K v h' nx'=.ok True) :
  IR.run zb.t106 (CS Tryz.prog B) 1000010 (fnO zb.res K) Kq (zb.fr (jm (dg 1000000000 a)) (jm (dg 1000000000 d)) x2 x3 x4 x5 x6 x7 x8 x9 x10 x11 x12 x13 x14 x15 x16 x17 x18 x19 x20 x21 x22 x23 x24 x25 x26 x27 x28) h nx=.ok True:=by
 have oa:=gL (b:=1000000000) (by decide) a;have od:=gL (b:=1000000000) (by decide) d;have htop:=getD_some (l:=dg 1000000000 d) (k:=m+1) (by omega);have htW:=jY (k:=m+1) (by decide) od.2.1;have ht1:1<=(dg 1000000000 d).getD (m+1) 0:=by
  have:=od.2.2;unfold Nm at this;rw [List.getLast?_eq_getElem?,hds,show m+2-1=m+1 from rfl,htop] at this;rcases Zbx ((dg 1000000000 d).getD (m+1) 0) with q | q
  .rw [q] at this;exact absurd rfl this
  .exact q
 have hdm:bv 1000000000 ((dg 1000000000 d).take (m+1))+1000000000 ^ (m+1)*(dg 1000000000 d).getD (m+1) 0=d:=by
  rw [<- yO,Zaf (by omega),od.1]
 have l1:=xY (b:=1000000000) (m:=m+1) (by decide) od.2.1 (by omega)
 generalize (dg 1000000000 d).getD (m+1) 0=top at *
 obtain ⟨f,hf⟩:∃ f,f=1000000000 / (top+1):=⟨_,rfl⟩;obtain ⟨f1,f2,f3,f4⟩:=zrq ht1 htW hf;have hpw:1000000000 ^ (m+2)=1000000000 ^ (m+1)*1000000000:=Zbr ..;have hPm:0<1000000000 ^ (m+1):=Zew (by decide);have hVlt:d*f<1000000000 ^ (m+2):=by
  have b3:d<1000000000 ^ (m+1)*(top+1):=by rw [Zbf,Zbo];omega
  have b4:d*f<1000000000 ^ (m+1)*(top+1)*f:=Zds b3 f1;have b5:1000000000 ^ (m+1)*((top+1)*f)<=1000000000 ^ (m+1)*1000000000:=Zbd _ (by rw [Zax];exact f3);rw [Zbc] at b4;omega
 have hdge:1000000000 ^ (m+1)*top<=d:=by omega
 have qc7:1000000000 ^ (m+1)<=d:=by
  have:1000000000 ^ (m+1)*1<=1000000000 ^ (m+1)*top:=Zbd _ ht1;omega
 have hVge:1000000000 ^ (m+1)*f<=d*f:=Zao _ qc7;have hVgt:1000000000 ^ (m+1)*top*f<=d*f:=Zao _ hdge;have qc8:1000000000 ^ (m+1)<=d*f:=by
  have:1000000000 ^ (m+1)*1<=1000000000 ^ (m+1)*f:=Zbd _ f1;omega
 have oV:=gL (b:=1000000000) (by decide) (d*f);have hvl:(dg 1000000000 (d*f)).length=m+2:=by
  have c1:=uN (b:=1000000000) (by decide) hVlt;have c2:=zmd (b:=1000000000) (by decide) qc8;omega
 have qc9:500000000<=(dg 1000000000 (d*f)).getD (m+1) 0:=by
  have e1:bv 1000000000 ((dg 1000000000 (d*f)).take (m+1))+1000000000 ^ (m+1)*(dg 1000000000 (d*f)).getD (m+1) 0=d*f:=by
   rw [<- yO,Zaf (by omega),oV.1]
  have e2:=xY (b:=1000000000) (m:=m+1) (by decide) oV.2.1 (by omega);rcases Zda ((dg 1000000000 (d*f)).getD (m+1) 0) (f*top) with q | q
  .exfalso
   have e3:1000000000 ^ (m+1)*((dg 1000000000 (d*f)).getD (m+1) 0+1)<=1000000000 ^ (m+1)*(f*top):=Zbd _ q;rw [Zbc,Zax top f] at hVgt;rw [Zbf,Zbo] at e3;omega
  .omega
 have hd:1<=d:=by omega
 have zxh:0<d*f:=Nat.mul_pos hd f1;have haW:a<1000000000 ^ (dg 1000000000 a).length:=by
  have:=vE (b:=1000000000) (by decide) oa.2.1
  rwa [oa.1] at this
 have oA:=gL (b:=1000000000) (by decide) (a*f);have hal:(dg 1000000000 (a*f)).length<=(dg 1000000000 a).length+1:=by
  refine uN (b:=1000000000) (by decide) ?_;rw [Zbr];have c1:a*f<1000000000 ^ (dg 1000000000 a).length*f:=Zds haW f1;have c2:1000000000 ^ (dg 1000000000 a).length*f<=1000000000 ^ (dg 1000000000 a).length*1000000000:=Zbd _ (by omega);omega
 have hal1:1<=(dg 1000000000 (a*f)).length:=by
  have ha1:1<=a:=by
   rcases Zbx a with e | e
   .have e2:(dg 1000000000 a).length=0:=by rw [e,j3];rfl
    omega
   .exact e
  exact zb7 (Nat.ne_of_gt (Nat.mul_pos ha1 f1))
 have bv1:bv 1000000000 [f]=f:=by simp [bv]
 have fin:∀ Q R:Nat,a*f=R+Q*(d*f)->R<d*f->Q=a / d/\R=a%d*f:=λQ R e hR=>by
  obtain ⟨c1,c2⟩:=zes (U:=a*f) (V:=d*f) (q:=Q) (r:=R) (by omega) hR;rw [Nat.mul_div_mul_right _ _ f1] at c1;rw [Nat.mul_mod_mul_right] at c2;exact ⟨c1.symm,c2.symm⟩
 rw [zb.t106,zA,zb.fU,dLen,kz (by omega),dIx (i:=m+1) (by omega) (by omega),dLd htop,jc (by omega),vC (by omega) (by omega),show (1000000000:Int).tdiv ((top:Int)+1)=(f:Int) by rw [Zcd (by omega),hf];simp];refine H0.mq (l:=[D f]) rfl λfid h1 nx1 H1 => ?_;rw [zA,zb.sD];refine mulG (a:=dg 1000000000 d) (b:=[f]) od.2.1 (Dg.one f2) (by omega) (by simp) H1 (λK=>yN ..) (λh' nx' X j H' hj=>zxg (k:=1) (l:=[f]) H' rfl rfl hj) λh2 nx2 H2 => ?_;rw [od.1,bv1,zA,zb.oC,dLen,hvl,zA,zb.aI];refine H2.mq (l:=[]) rfl λe h3 nx3 H3 => ?_;refine mulG (a:=dg 1000000000 a) (b:=[f]) oa.2.1 (Dg.one f2) (by omega) (by simp) H3 (λK=>yN ..) (λh' nx' X j H' hj=>zxg (k:=2) (l:=[f]) H' rfl rfl hj) λh4 nx4 H4 => ?_;rw [oa.1,bv1];refine H4.appE (new:=(dg 1000000000 (a*f)).map D) (c:=(dg 1000000000 (a*f)).length) (λno K'=>rfl) (by simp) (List.all_eq_true.2 λv hv=>rU.qf (zdf _ v hv)) (by decide) hal1 (by omega) λuid h5 nx5 H5 => ?_;rw [zA,zK]
 generalize hLa:(dg 1000000000 a).length=la at *
 refine zb.zm5 (λm' x9 h' nx'=>∃ (id:Pa) (Z:List Nat) (i:Nat),x9=.sl id 0 i none 1/\Z.length=i/\m'+i=la+1/\Dg 1000000000 Z/\bv 1000000000 Z=a*f/\Hp h h' nx' [.gro (some id) 1 i (Z.map D),.arr fid [D f]]) (m:=la+1-(dg 1000000000 (a*f)).length) (by omega) ⟨uid,dg 1000000000 (a*f),_,rfl,rfl,by omega,oA.2.1,oA.1,H5⟩ ?_
 clear H5 h5 nx5 H4 h4 nx4 H3 h3 nx3 H2 h2 nx2 H1 h1 nx1 uid
 rintro m' z9 z23 h5 nx5 R ⟨uid,Z,i,rfl,hZ,hm',hdZ,hvZ,H5⟩ hR;rw [zb.t22,zA,zA,zb.rX,yN,dLen,hLa,jc (by omega),ji,zB,zb.v23];by_cases ci:i<la+1
 .rw [Zab (by omega),zD,zG,zK,zb.ah];refine H5.zzi (v:=I 0) (by omega) (by decide) rfl rfl λid' h6 nx6 H6 => ?_;refine hR (m'-1) _ _ _ _ (by omega) ⟨id',Z++[0],i+1,rfl,by simp [hZ],by omega,hdZ.append (Dg.one (by decide)),by rw [uG,hvZ,Zfg,Zco],by rw [Zbb];exact H6⟩
 have hi:i=la+1:=by omega
 subst hi;obtain ⟨qn,hqn⟩:∃ qn,la=m+1+qn:=⟨la-(m+1),by omega⟩;rw [Zaa (by omega),zC,zZ,yE,zA,zb.zaj,yN,kz (by omega)];refine sMkD (n:=qn) H5.zzh (by omega) (by omega) λqid h6 nx6 H6 => ?_;rw [zA,zA,zb.zm6,yN,kz (by omega),kz (by omega),zK];refine zb.qac (λk x11 h' nx'=>∃ Q Ul:List Nat,x11=I ((k:Int)-1)/\k<=qn/\Q.length=qn-k/\Dg 1000000000 Q/\Ul.length=la+1/\Dg 1000000000 Ul/\a*f=bv 1000000000 Ul+1000000000 ^ k*bv 1000000000 Q*(d*f)/\bv 1000000000 (Ul.drop k)<d*f/\Hp h h' nx' [.arr qid ((List.replicate k 0++Q).map D),.arr uid (Ul.map D),.arr fid [D f]]) (m:=qn) (by omega) ⟨[],Z,by congr 1;omega,Zag _,by simp,λ_ h=>by simp at h,hZ,hdZ,by simp [bv,hvZ],?_,by simpa using H6⟩ ?_
 .have e:=mV (b:=1000000000) (l:=Z) (k:=qn) (by omega);rw [hvZ] at e;rcases Zda (bv 1000000000 (Z.drop qn)) (d*f) with q | q
  .exact q
  .exfalso
   have c1:1000000000 ^ qn*(d*f)<=1000000000 ^ qn*bv 1000000000 (Z.drop qn):=Zbd _ q;have c2:1000000000 ^ qn*(1000000000 ^ (m+1)*f)<=1000000000 ^ qn*(d*f):=Zbd _ hVge;have c3:a*f<1000000000 ^ la*f:=Zds haW f1;rw [hqn,Zcz (m+1) qn,Zdf,Zbc] at c3;omega
 clear H5 H6 h5 h6 nx5 nx6 hZ hdZ hvZ Z R hR
 rintro k z11 z12 z13 z14 z15 z16 z17 z18 z19 z24 z25 z26 z27 z28 h5 nx5 R ⟨Q,Ul,rfl,hk,hQ,hdQ,hUl,hdU,hval,hlt,H5⟩ hR;rw [zb.t92,zA,zA,zb.zac,fe];cases k with
 | zero =>
  rw [Zaa (by omega),zB,zb.v24,zC,zZ,yE];simp only [Zey,Zbq] at H5;rw [Nat.pow_zero,Zdk] at hval;rw [Zdb] at hlt;obtain ⟨c1,c2⟩:=fin _ _ hval hlt;have oR:=gL (b:=1000000000) (by decide) (a%d*f);obtain ⟨z1,z2⟩:=zhc (b:=1000000000) (l:=Ul) (k:=m+2) (by omega) (by omega);have H6:=H5.perm (.swap _ _ _);rw [zA,zb.znv,qc0 (by omega),sIx (i:=0) (j:=0) rfl (by omega),H6.load (k:=2) rfl (show ([D f]:List AV)[0]? = some (D f) from rfl)];obtain ⟨h6,hkp,H7,hF⟩:=H6.zuw (n:=m+2) (by omega);refine vB hkp (.cons hF .nil) ?_;refine xR hdU.take (by rw [Zan];omega) _ _ _ _ ?_;rintro _ rfl _;rw [H7.load (k:=1) rfl (show ([D f]:List AV)[0]? = some (D f) from rfl)];simp only [zF];rw [sIx (i:=0) (j:=0) rfl (by omega)];simp only [zF];rw [z2,c2];have hml:(dg 1000000000 (a%d*f)).length<=100000:=by
   have c3:a%d*f<d*f:=Zds (Zby _ (by omega)) f1;have:=uN (b:=1000000000) (n:=m+2) (by decide) (show a%d*f<1000000000 ^ (m+2) by omega);omega
  refine cA f1 f2 oR.2.1 hml _ _ _ _ ?_;rintro _ rfl _;rw [jE,jD,oR.1,Nat.mul_div_cancel _ f1,zA,zb.qad];obtain ⟨h7,hkp7,H8,hF7⟩:=H7.letD (n:=qn) (by omega);refine vB hkp7 (.cons hF7 .nil) ?_;refine xR hdQ (by omega) _ _ _ _ ?_;rintro _ rfl _;rw [c1];simp only [zI,zO];rw [zb.ret];exact hK _ _ _ _ _ H8 (gJ (zT (gU _)) (zT (gU _))) rfl
 | succ k =>
  have e0:Ul.drop k=Ul.getD k 0::Ul.drop (k+1):=by
   have ea:=getD_some (l:=Ul) (k:=k) (by omega);rw [List.getElem?_eq_getElem (by omega)] at ea;rw [Zaw (by omega),Option.some.inj ea]
  have hu0:=jY (k:=k) (by decide) hdU;have hut:=jY (k:=k+(m+2)) (by decide) hdU;have hdd:Dg 1000000000 (Ul.drop k):=λx hx=>hdU x (Zeu hx);have hwin:bv 1000000000 (Ul.drop k)=Ul.getD k 0+1000000000*bv 1000000000 (Ul.drop (k+1)):=by rw [e0,bv]
  have hwlt:bv 1000000000 (Ul.drop k)<1000000000*(d*f):=by
   have:1000000000*(bv 1000000000 (Ul.drop (k+1))+1)<=1000000000*(d*f):=Zbd _ hlt;rw [Zbf,Zbo] at this;omega
  have hwp:bv 1000000000 (Ul.drop k)<1000000000 ^ (m+3):=by
   have:1000000000*(d*f)<=1000000000*1000000000 ^ (m+2):=Zbd _ (by omega);rw [show m+3=m+2+1 from rfl,Zbr,Zax (1000000000 ^ (m+2))];omega
  obtain ⟨z1,z2⟩:=zhc (b:=1000000000) (l:=Ul.drop k) (k:=m+3) (by rw [Zcb];omega) hwp;rw [Zea] at z1;have eA:(Ul.take k).length=k:=by rw [Zan];omega
  have eX:((Ul.drop k).take (m+2)).length=m+2:=by rw [Zan,Zcb];omega
  have eC:(Ul.drop (k+(m+2)+1)).length=la+1-(k+(m+2)+1):=by rw [Zcb];omega
  have eW:bv 1000000000 ((Ul.drop k).take (m+3))=bv 1000000000 ((Ul.drop k).take (m+2))+1000000000 ^ (m+2)*Ul.getD (k+(m+2)) 0:=by
   rw [show m+3=m+2+1 from rfl,win_snoc (by omega),uG,eX]
  rw [Zab (by omega),zB,zb.v24,zD,zG,zA,zK,zA,zb.zfr,show ((k+1:Nat):Int)-1=(k:Int) by omega,<- hUl];refine zrp (i0:=1) (k:=m) H5 rfl hvl (by omega) (by omega) hdU oV.2.1 qc9 (by rw [z2,oV.1];exact hwlt) λq q1 q2 q3 => ?_;rw [eW,oV.1] at q2 q3;rw [eW] at z2;have H6:=H5.perm (.swap _ _ _);rw [zrr (l:=Ul) (k:=k) (n:=m+2) (by omega)] at H6;have hst:=λ(KO:fP Prop) (KR:Ks Prop) (w2 w3 w4 w5 w6 w10 w13 w14 w15 w16 w17 w18 w19 w20 w21 w22 w23 w24 w25 w26 w27 w28:AV)=>qcz (x2:=w2) (x3:=w3) (x4:=w4) (x5:=w5) (x6:=w6) (x10:=w10) (x13:=w13) (x14:=w14) (x15:=w15) (x16:=w16) (x17:=w17) (x18:=w18) (x19:=w19) (x20:=w20) (x21:=w21) (x22:=w22) (x23:=w23) (x24:=w24) (x25:=w25) (x26:=w26) (x27:=w27) (x28:=w28) (B:=B) (O:=KO) (R:=KR) (N:=1000010) (A:=Ul.take k) (X:=(Ul.drop k).take (m+2)) (C:=Ul.drop (k+(m+2)+1)) (v:=dg 1000000000 (d*f)) (n:=m+2) (q:=q) (t:=Ul.getD (k+(m+2)) 0) (cap:=none) (L:=[.arr qid ((List.replicate (k+1) 0++Q).map D),.arr fid [D f]]) (x0:=jm (dg 1000000000 a)) (x1:=jm (dg 1000000000 d)) (by simpa using H6) (Zag _) eX hvl hdd.take oV.2.1 hut (by omega) q1 (by rw [oV.1];exact q2) (by rw [oV.1];exact q3);rw [eA,eC,show k+(m+2)+1+(la+1-(k+(m+2)+1))=Ul.length by omega] at hst;refine hst _ _ _ _ _ _ _ _ _ _ _ _ _ _ _ _ _ _ _ _ _ _ _ _ λY h6 nx6 y13 y14 y15 y16 y17 y18 y19 y25 y26 y27 y28 y1 y2 y3 H7 => ?_;rw [oV.1,z2] at y3 ⊢;have hdig:bv 1000000000 (Ul.drop k) / (d*f)<1000000000:=by rw [Zep zxh];exact hwlt
  have H8:=H7.perm (.swap _ _ _);rw [zhb] at H8;rw [zb.qaa,sIx (i:=k) rfl (by omega)];refine H8.store (k:=0) rfl (by simp) rfl λh7 H9 => ?_;simp only [Zcm] at H9;rw [Zbb,Zcs,qF (by simp)] at H9;rw [zb.qab,kz (by omega),hUl];refine hR k _ _ _ _ _ _ _ _ _ _ _ _ _ _ _ _ (by omega) ⟨bv 1000000000 (Ul.drop k) / (d*f)::Q,Ul.take k++(Y++Ul.drop (k+(m+2)+1)),rfl,by omega,by simp;omega,(Dg.one hdig).append hdQ,by simp;omega,hdU.take.append (y2.append λx hx=>hdU x (Zeu hx)),?_,?_,by simpa using H9⟩
  .rw [uO,uO,show k+(m+2)+1=k+(m+3) from rfl,z1,Zfg,Zco,eA,y3,bv];refine zrn ?_;rw [hval,mV (b:=1000000000) (l:=Ul) (k:=k) (by omega),Zbr]
  .rw [List.drop_append_of_le_length (by omega),Zbn (by omega),Zbq,uO,show k+(m+2)+1=k+(m+3) from rfl,z1,Zfg,Zco,y3];exact Zby _ zxh
def S9 (n:Nat):Prop:=(dg 1000000000 n).length<=99990
theorem zb8 {b d:Nat} (hb:2<=b) (h:(dg b d).length=1):dg b d=[d]/\d<b:=by
 have od:=gL hb d;have e1:dg b d=[d]:=by
  cases hdd:dg b d with
  | nil=>rw [hdd] at h;cases h
  | cons x l =>
   rw [hdd] at h;have:l=[]:=by cases l with
    | nil=>rfl
    | cons y l=>simp at h
   subst this;have:=od.1;rw [hdd] at this;simp [bv] at this;rw [this]
 exact ⟨e1,od.2.1 d (by rw [e1];simp)⟩
theorem bN {a d:Nat} (hd:1<=d) (ha:S9 a) (hds:S9 d):Pure Tryz.prog B 213 [jm (dg 1000000000 a),jm (dg 1000000000 d)] (· = .tup [jm (dg 1000000000 (a / d)),jm (dg 1000000000 (a%d))]):=by
 refine zX λh nx K H0 hK=>zN zQ yD 1000010 λhf => ?_;have oa:=gL (b:=1000000000) (by decide) a;have od:=gL (b:=1000000000) (by decide) d;unfold S9 at ha hds;rw [zb.go,zb.t109,zA,zb.zy,zA,zA,zb.zx];refine zkq (by omega) (by omega) _ _ _ _ ?_;rintro _ rfl _;rw [zko (by decide),ji,zB,zb.v21];by_cases c:a<d
 .rw [Zab (by rw [cmpN,if_pos c];decide),zD,zA,zb.je];simp only [zI,zO];rw [zb.ret];refine hK _ _ _ _ _ H0 (gJ (.zc1 1) (zT (gU _))) ?_;rw [Zft c,Zbs c,j3];rfl
 rw [Zaa (by rw [cmpN,if_neg c];split <;> decide),zC,zG,zA,zA,zb.qi,dLen,dh,zB,zb.v22];have hla:(dg 1000000000 d).length<=(dg 1000000000 a).length:=by
  rcases Zda (dg 1000000000 a).length (dg 1000000000 d).length with q | q
  .have:=wR (b:=1000000000) (by decide) q;omega
  .exact q
 have hld1:1<=(dg 1000000000 d).length:=zb7 (by omega);by_cases c1:(dg 1000000000 d).length=1
 .obtain ⟨e1,hdW⟩:=zb8 (b:=1000000000) (by decide) c1;rw [Zab (by omega),zD,e1,zA,zb.fC,dIx (l:=[d]) (i:=0) (j:=0) rfl (by simp),dLd (x:=d) rfl];refine cA hd hdW oa.2.1 (by omega) _ _ _ _ ?_;rintro _ rfl _;rw [jE,jD,oa.1,zA,zb.fH];have hml:=Zby a (show 0<d by omega);refine H0.mq (l:=[D (a%d)]) rfl λtb h1 nx1 H1 => ?_;obtain ⟨h2,hkp,H2,hF⟩:=H1.letD (l:=[a%d]) (n:=1) rfl;refine vB hkp (.cons hF .nil) ?_;refine xR (Dg.one (by omega)) (by simp) _ _ _ _ ?_;rintro _ rfl _;simp only [zI,zO];rw [zb.ret];exact hK _ _ _ _ _ H2 (gJ (zT (gU _)) (zT (gU _))) (by simp [bv])
 rw [Zaa (by omega),zC,zG];exact zux (m:=(dg 1000000000 d).length-2) H0 ha (by omega) hla hK
def Z9 (k:Nat) (z:Int):Prop:=z.natAbs<1000000000 ^ k
theorem Z9.len {k:Nat} {z:Int} (h:Z9 k z):(dg 1000000000 z.natAbs).length<=k:=uN (by decide) h
theorem Z9.mono {k m:Nat} {z:Int} (h:Z9 k z) (hkm:k<=m):Z9 m z:=Zdi h (Zdo (by decide) hkm)
theorem Z9.mul {k m:Nat} {a b:Int} (ha:Z9 k a) (hb:Z9 m b):Z9 (k+m) (a*b):=by
 unfold Z9 at *
 rw [Zcg,Zdf];exact Zdq ha hb
theorem Z9.add {k:Nat} {a b:Int} (ha:Z9 k a) (hb:Z9 k b):Z9 (k+1) (a+b):=by
 unfold Z9 at *
 have h1:=Int.natAbs_add_le a b;have h2:1000000000 ^ (k+1)=1000000000 ^ k*1000000000:=Zbr ..;omega
theorem u5 {b x y:Nat} (hb:2<=b) (h:x<=y):(dg b x).length<=(dg b y).length:=by
 rcases Zda (dg b y).length (dg b x).length with q | q
 .have:=wR (b:=b) hb q;omega
 .exact q
theorem qH (z:Int):sS z=.agg [.bool (decide (z<0)),jm (dg 1000000000 z.natAbs)]:=rfl
theorem zuy {a b:Int} {k:Nat} (hk:k<=90000) (ha:Z9 k a) (hb:Z9 k b):Pure Tryz.prog B 131 [sS a,sS b] (· = sS (a+b)):=by
 have oa:=gL (b:=1000000000) (by decide) a.natAbs;have ob:=gL (b:=1000000000) (by decide) b.natAbs;have la:=ha.len;have lb:=hb.len;rw [qH,qH];refine zX λh nx K H0 hK=>zN zQ yD 100 λhf => ?_;rw [qg.go,qg.t15,zA,qg.zy];refine H0.box (l:=[.bool (decide (a<0)),jm (dg 1000000000 a.natAbs)]) rfl λpa h1 nx1 H1 => ?_;refine H1.box (l:=[.bool (decide (b<0)),jm (dg 1000000000 b.natAbs)]) rfl λpb h2 nx2 H2 => ?_;refine H2.alloc λp h3 nx3 H3 => ?_;rw [zA,zA,qg.zx,sFx,H3.load (k:=2) (i:=0+0) rfl rfl,sFx,H3.load (k:=1) (i:=0+0) rfl rfl,bEql,zB,qg.v5];by_cases c:decide (a<0)=decide (b<0)
 .rw [show (decide (a<0)==decide (b<0))=true by rw [c];exact beq_self_eq_true _,zD,zA,qg.je,sFx,H3.load (k:=2) (i:=0+0) rfl rfl,sFx,H3.load (k:=2) (i:=0+1) rfl rfl,sFx,H3.load (k:=1) (i:=0+1) rfl rfl];refine zev oa.2.1 ob.2.1 (by omega) (by omega) _ _ _ _ ?_;rintro _ ⟨Z,rfl,hdZ,hvZ,hlZ⟩ _;rw [oa.1,ob.1] at hvZ;rw [H3.load (k:=2) (i:=0+0) rfl rfl,zF,sFx,zF];refine uK hdZ (by omega) _ _ _ _ ?_;rintro _ rfl _;have e:(if decide (a<0) then -(bv 1000000000 Z:Int) else (bv 1000000000 Z:Int))=a+b:=by
   rw [hvZ];by_cases d:a<0
   .have d2:b<0:=by rw [Zab d] at c;exact of_decide_eq_true c.symm
    rw [Zab d,if_pos rfl];omega
   .have d2:¬ b<0:=by rw [Zaa d] at c;exact of_decide_eq_false c.symm
    rw [Zaa d,if_neg (by decide)];omega
  rw [e];refine H3.jd (l2:=[.bool (decide (a+b<0)),jm (dg 1000000000 (a+b).natAbs)]) (k:=0) rfl rfl rfl λh4 H4 => ?_;simp only [zI,zO];rw [qg.ret,H4.zw (k:=0) (n:=2) rfl rfl];exact hK _ _ _ _ _ H4 dAgg rfl
 .rw [show (decide (a<0)==decide (b<0))=false from beq_eq_false_iff_ne.2 c,zC,zG,zA,zA,qg.qi,sFx,H3.load (k:=2) (i:=0+1) rfl rfl,sFx,H3.load (k:=1) (i:=0+1) rfl rfl];refine zkq (by omega) (by omega) _ _ _ _ ?_;rintro _ rfl _;rw [zko (by decide),fe,zB,qg.v6];by_cases d:b.natAbs<=a.natAbs
  .rw [Zab (by unfold cmpN;rw [if_neg (by omega)];split <;> decide),zD,zA,qg.fC,sFx,H3.load (k:=2) (i:=0+0) rfl rfl,sFx,H3.load (k:=2) (i:=0+1) rfl rfl,sFx,H3.load (k:=1) (i:=0+1) rfl rfl];refine pW oa.2.1 ob.2.1 (by omega) (u5 (by decide) d) (by rw [oa.1,ob.1];exact d) _ _ _ _ ?_;rintro _ rfl _;have os:=gL (b:=1000000000) (by decide) (a.natAbs-b.natAbs);have ls:=u5 (b:=1000000000) (by decide) (show a.natAbs-b.natAbs<=a.natAbs by omega);rw [oa.1,ob.1,H3.load (k:=2) (i:=0+0) rfl rfl,zF,sFx,zF];refine uK os.2.1 (by omega) _ _ _ _ ?_;rintro _ rfl _;have e:(if decide (a<0) then -(bv 1000000000 (dg 1000000000 (a.natAbs-b.natAbs)):Int) else (bv 1000000000 (dg 1000000000 (a.natAbs-b.natAbs)):Int))=a+b:=by
    rw [os.1];by_cases d:a<0
    .have d2:¬ b<0:=λq=>c (by rw [Zab d,Zab q]);rw [Zab d,if_pos rfl];omega
    .have d2:b<0:=Classical.not_not.1 λq=>c (by rw [Zaa d,Zaa q]);rw [Zaa d,if_neg (by decide)];omega
   rw [e];refine H3.jd (l2:=[.bool (decide (a+b<0)),jm (dg 1000000000 (a+b).natAbs)]) (k:=0) rfl rfl rfl λh4 H4 => ?_;simp only [zI,zO];rw [qg.ret,H4.zw (k:=0) (n:=2) rfl rfl];exact hK _ _ _ _ _ H4 dAgg rfl
  .rw [Zaa (by unfold cmpN;rw [if_pos (by omega)];decide),zC,zG,zA,qg.di,sFx,H3.load (k:=1) (i:=0+0) rfl rfl,sFx,H3.load (k:=1) (i:=0+1) rfl rfl,sFx,H3.load (k:=2) (i:=0+1) rfl rfl];refine pW ob.2.1 oa.2.1 (by omega) (u5 (by decide) (by omega)) (by rw [oa.1,ob.1];omega) _ _ _ _ ?_;rintro _ rfl _;have os:=gL (b:=1000000000) (by decide) (b.natAbs-a.natAbs);have ls:=u5 (b:=1000000000) (by decide) (show b.natAbs-a.natAbs<=b.natAbs by omega);rw [oa.1,ob.1,H3.load (k:=1) (i:=0+0) rfl rfl,zF,sFx,zF];refine uK os.2.1 (by omega) _ _ _ _ ?_;rintro _ rfl _;have e:(if decide (b<0) then -(bv 1000000000 (dg 1000000000 (b.natAbs-a.natAbs)):Int) else (bv 1000000000 (dg 1000000000 (b.natAbs-a.natAbs)):Int))=a+b:=by
    rw [os.1];by_cases d:b<0
    .have d2:¬ a<0:=λq=>c (by rw [Zab d,Zab q]);rw [Zab d,if_pos rfl];omega
    .have d2:a<0:=Classical.not_not.1 λq=>c (by rw [Zaa d,Zaa q]);rw [Zaa d,if_neg (by decide)];omega
   rw [e];refine H3.jd (l2:=[.bool (decide (a+b<0)),jm (dg 1000000000 (a+b).natAbs)]) (k:=0) rfl rfl rfl λh4 H4 => ?_;simp only [zI,zO];rw [qg.ret,H4.zw (k:=0) (n:=2) rfl rfl];exact hK _ _ _ _ _ H4 dAgg rfl
theorem zhe {a:Int} {k:Nat} (hk:k<=90000) (ha:Z9 k a):Pure Tryz.prog B 212 [sS a] (· = sS (-a)):=by
 have oa:=gL (b:=1000000000) (by decide) a.natAbs;have la:=ha.len;rw [qH];refine zX λh nx K H0 hK=>zN zQ yD 100 λhf => ?_;rw [nk.go,nk.t3,zA,nk.zy];refine H0.box (l:=[.bool (decide (a<0)),jm (dg 1000000000 a.natAbs)]) rfl λpa h1 nx1 H1 => ?_;refine H1.alloc λp h3 nx3 H3 => ?_;rw [zA,nk.zx,sFx,H3.load (k:=1) (i:=0+0) rfl rfl,jG,sFx,H3.load (k:=1) (i:=0+1) rfl rfl];refine uK oa.2.1 (by omega) _ _ _ _ ?_;rintro _ rfl _;have e:(if !decide (a<0) then -(bv 1000000000 (dg 1000000000 a.natAbs):Int) else (bv 1000000000 (dg 1000000000 a.natAbs):Int)) = -a:=by
  rw [oa.1];by_cases d:a<0
  .rw [Zab d,if_neg (by decide)];omega
  .rw [Zaa d,if_pos (by decide)];omega
 rw [e];refine H3.jd (l2:=[.bool (decide (-a<0)),jm (dg 1000000000 (-a).natAbs)]) (k:=0) rfl rfl rfl λh4 H4 => ?_;simp only [zI,zO];rw [nk.ret,H4.zw (k:=0) (n:=2) rfl rfl];exact hK _ _ _ _ _ H4 dAgg rfl
theorem vH {a b:Int} {k m:Nat} (hk:k<=90000) (hm:m<=90000) (ha:Z9 k a) (hb:Z9 m b):Pure Tryz.prog B 132 [sS a,sS b] (· = sS (a*b)):=by
 have oa:=gL (b:=1000000000) (by decide) a.natAbs;have ob:=gL (b:=1000000000) (by decide) b.natAbs;have la:=ha.len;have lb:=hb.len;rw [qH,qH];refine zX λh nx K H0 hK=>zN zQ yD 100 λhf => ?_;rw [nu.go,nu.t3,zA,nu.zy];refine H0.box (l:=[.bool (decide (a<0)),jm (dg 1000000000 a.natAbs)]) rfl λpa h1 nx1 H1 => ?_;refine H1.box (l:=[.bool (decide (b<0)),jm (dg 1000000000 b.natAbs)]) rfl λpb h2 nx2 H2 => ?_;refine H2.alloc λp h3 nx3 H3 => ?_;rw [zA,nu.zx,sFx,H3.load (k:=2) (i:=0+0) rfl rfl,sFx,H3.load (k:=1) (i:=0+0) rfl rfl,bNeq,sFx,H3.load (k:=2) (i:=0+1) rfl rfl,sFx,H3.load (k:=1) (i:=0+1) rfl rfl];refine zex oa.2.1 ob.2.1 (by omega) (by omega) _ _ _ _ ?_;rintro _ rfl _;rw [bNeq,zF,H3.load (k:=1) (i:=0+0) rfl rfl,zF,sFx,zF,H3.load (k:=2) (i:=0+0) rfl rfl,zF,sFx,zF,oa.1,ob.1];have om:=gL (b:=1000000000) (by decide) (a.natAbs*b.natAbs);have lm:(dg 1000000000 (a.natAbs*b.natAbs)).length<=k+m:=uN (by decide) (by rw [Zdf];exact Zdq ha hb);refine uK om.2.1 (by omega) _ _ _ _ ?_;rintro _ rfl _;have e:(if (decide (a<0) != decide (b<0)) then -(bv 1000000000 (dg 1000000000 (a.natAbs*b.natAbs)):Int) else (bv 1000000000 (dg 1000000000 (a.natAbs*b.natAbs)):Int))=a*b:=by
  rw [om.1];rcases Int.lt_or_le a 0 with d | d <;> rcases Int.lt_or_le b 0 with d2 | d2
  .rw [Zab d,Zab d2,if_neg (by decide),Zdm,show (a.natAbs:Int) = -a by omega,show (b.natAbs:Int) = -b by omega,Int.neg_mul_neg]
  .rw [Zab d,Zaa (by omega),if_pos (by decide),Zdm,show (a.natAbs:Int) = -a by omega,show (b.natAbs:Int)=b by omega,Int.neg_mul,Int.neg_neg]
  .rw [Zaa (by omega),Zab d2,if_pos (by decide),Zdm,show (a.natAbs:Int)=a by omega,show (b.natAbs:Int) = -b by omega,Int.mul_neg,Int.neg_neg]
  .rw [Zaa (by omega),Zaa (by omega),if_neg (by decide),Zdm,show (a.natAbs:Int)=a by omega,show (b.natAbs:Int)=b by omega]
 rw [e];refine H3.jd (l2:=[.bool (decide (a*b<0)),jm (dg 1000000000 (a*b).natAbs)]) (k:=0) rfl rfl rfl λh4 H4 => ?_;simp only [zI,zO];rw [nu.ret,H4.zw (k:=0) (n:=2) rfl rfl];exact hK _ _ _ _ _ H4 dAgg rfl
theorem zdh {a b:Nat} (ha:S9 a) (hb:S9 b):Pure Tryz.prog B 208 [jm (dg 1000000000 a),jm (dg 1000000000 b)] (· = jm (dg 1000000000 (Nat.gcd a b))):=by
 refine zX λh nx K H0 hK=>zN zQ yD (b+100) λhf => ?_;rw [qa.go,qa.t14,zA,qa.zy,zA,zK];refine qa.t9_L (λm x0 x1 h' nx'=>∃ x y:Nat,x0=jm (dg 1000000000 x)/\x1=jm (dg 1000000000 y)/\m=y/\S9 x/\S9 y/\Nat.gcd x y=Nat.gcd a b/\h'=h/\nx'=nx) (m:=b) (by omega) ⟨a,b,rfl,rfl,rfl,ha,hb,rfl,rfl,rfl⟩ ?_;rintro m z0 z1 z3 z4 h3 nx3 R ⟨x,y,rfl,rfl,rfl,hx,hy,hg,rfl,rfl⟩ hR;rw [qa.t8,zA,zA,qa.zx,dLen,xq];by_cases c:m=0
 .subst c;rw [Zge] at hg;rw [j3,Zaa (by simp),zB,qa.v4,zC,zZ,yE,zA,qa.di];simp only [zI,zO];rw [qa.ret,hg];exact hK _ _ _ _ _ H0 (zT (gU _)) rfl
 .have hl:=zb7 c;rw [Zab (by omega),zB,qa.v4,zD,zG,zK,zA,qa.fJ];refine bN (by omega) hx hy _ _ _ _ ?_;rintro _ rfl _;have hlt:=Zby x (show 0<m by omega);rw [jE,jD,qa.fG];refine hR (x%m) _ _ _ _ _ _ hlt ⟨m,x%m,rfl,rfl,rfl,hy,Zbe (u5 (by decide) (by omega)) hy,?_,rfl,rfl⟩;rw [<- hg,Zfh x m,Nat.gcd_rec m x,Zfh]
theorem zzj {a b:Nat} (ha:a<=9223372036854775807) (hb:b<=9223372036854775807):Pure Tryz.prog B 210 [I (a:Int),I (b:Int)] (· = I ((Nat.gcd a b:Nat):Int)):=by
 refine zX λh nx K H0 hK=>zN zQ yD (b+100) λhf => ?_;rw [qw.go,qw.t12,zA,qw.zy,zA,zK];refine qw.t7_L (λm x0 x1 h' nx'=>∃ x y:Nat,x0=I (x:Int)/\x1=I (y:Int)/\m=y/\y<=9223372036854775807/\Nat.gcd x y=Nat.gcd a b/\h'=h/\nx'=nx) (m:=b) (by omega) ⟨a,b,rfl,rfl,rfl,hb,rfl,rfl,rfl⟩ ?_;rintro m z0 z1 z3 h3 nx3 R ⟨x,y,rfl,rfl,rfl,hy,hg,rfl,rfl⟩ hR;rw [qw.t6,zA,zA,qw.zx,xq];by_cases c:m=0
 .subst c;rw [Zge] at hg;rw [Zaa (by omega),zB,qw.v3,zC,zZ,yE,zA,qw.fK];simp only [zI,zO];rw [qw.ret,hg];exact hK _ _ _ _ _ H0 (zT rfl) rfl
 .have hlt:=Zby x (show 0<m by omega);rw [Zab (by omega),zB,qw.v3,zD,zG,zK,qw.fJ,vK (by omega),show (x:Int).tmod (m:Int)=((x%m:Nat):Int) by rw [Zcc (by omega)];simp];refine hR (x%m) _ _ _ _ _ hlt ⟨m,x%m,rfl,rfl,rfl,by omega,?_,rfl,rfl⟩;rw [<- hg,Zfh x m,Nat.gcd_rec m x,Zfh]
theorem pT {z:Int} (hz : -9223372036854775808<=z/\z<=9223372036854775807):Pure Tryz.prog B 134 [I z] (· = sS z):=by
 refine zX λh nx K H0 hK=>zN zQ yD 9223372036854775900 λhf => ?_;have hN:9223372036854775808<9223372036854775900:=by decide
 generalize 9223372036854775900=N at hN ⊢
 rw [ja.go,ja.t25,zA,ja.zy];refine H0.alloc λp h1 nx1 H1 => ?_;rw [zA,ja.zx,zA,ja.je,ji,zA,zK];refine ja.zna (λm x0 x2 h' nx'=>∃ (y:Int) (i:Nat) (Z:List Nat) (o:Option Pa),x0=I y/\x2=xg o 1 i/\m=y.natAbs/\m<=9223372036854775808 /\ -9223372036854775808<=y/\y<=9223372036854775807/\Z.length=i/\Dg 1000000000 Z/\bv 1000000000 Z+1000000000 ^ i*m=z.natAbs/\i<=3/\m*1000000000 ^ i<=9223372036854775808/\Hp h h' nx' [.gro o 1 i (Z.map D),.arr p [.bool false,.ze]]) (m:=z.natAbs) (by omega) ⟨z,0,[],none,rfl,rfl,rfl,by omega,hz.1,hz.2,rfl,λ_ h=>by simp at h,by simp [bv],by omega,by simp;omega,H1.oK 1⟩ ?_;rintro m z0 z2 z4 z5 z6 h3 nx3 R ⟨y,i,Z,o,rfl,rfl,rfl,hm,hy1,hy2,hZ,hd,hs,hi3,hb,H3⟩ hR;rw [ja.t17,zA,zA,ja.pq,fD];by_cases c:y=0
 .subst c;simp only [Int.natAbs_zero,Zfg,Zco] at hs;rw [Zab rfl,Zak,zB,ja.v5,zC,zZ,yE,ja.t21,zA,ja.ah];obtain ⟨h5,hkp,H5,hF⟩:=H3.zew hZ;refine vB hkp (.cons (.bool _) (.cons hF .nil)) ?_;refine uK hd (by omega) _ _ _ _ ?_;rintro _ rfl _;have e:(if decide (z<0) then -(bv 1000000000 Z:Int) else (bv 1000000000 Z:Int))=z:=by
   rw [hs];by_cases d:z<0
   .rw [Zab d,if_pos rfl];omega
   .rw [Zaa d,if_neg (by decide)];omega
  rw [e];refine H5.jd (l2:=[.bool (decide (z<0)),jm (dg 1000000000 z.natAbs)]) (k:=0) rfl rfl rfl λh4 H4 => ?_;simp only [zI,zO];rw [ja.ret,H4.zw (k:=0) (n:=2) rfl rfl];exact hK _ _ _ _ _ H4 dAgg rfl
 .have i2:i<=2:=by
   rcases Zda 2 i with q | q
   .exfalso
    have e:i=3:=by omega
    subst e;have:1*1000000000 ^ 3<=y.natAbs*1000000000 ^ 3:=Zao _ (by omega);omega
   .exact q
  have et:(y.tmod 1000000000).natAbs=y.natAbs%1000000000:=by rw [Int.natAbs_tmod];rfl
  have eq:(y.tdiv 1000000000).natAbs=y.natAbs / 1000000000:=by rw [Int.natAbs_tdiv];rfl
  have hml:=Zby y.natAbs (show 0<1000000000 by decide);have hdv:y.natAbs / 1000000000<y.natAbs:=Nat.div_lt_self (by omega) (by decide);have hmd:=Zej y.natAbs 1000000000;have fin:∀ (z5 z6:AV) (w:Int),w=((y.natAbs%1000000000:Nat):Int)->ja.t13.run (CS Tryz.prog B) N (((fnO ja.res K).blk 0 (ja.t21.run (CS Tryz.prog B) N (fnO ja.res K) (zi ja.res K))).blk 1 R) R (ja.fr (I y) (.ptr p 0) (xg o 1 i) (.bool (decide (z<0))) (I w) z5 z6) h3 nx3=.ok True:=by
   rintro z5 z6 _ rfl;rw [ja.t13,zA,ja.di];refine H3.zdg (v:=D (y.natAbs%1000000000)) (by omega) (by decide) rfl rfl λo' h4 n4 H4 => ?_;rw [ja.rP,vC ⟨hy1,hy2⟩ (by omega)];refine hR _ _ _ _ _ _ _ _ (by rw [eq];exact hdv) ⟨y.tdiv 1000000000,i+1,Z++[y.natAbs%1000000000],o',rfl,rfl,rfl,by omega,by omega,by omega,by simp [hZ],hd.append (Dg.one hml),?_,by omega,?_,by rw [Zbb];exact H4⟩
   .rw [eq,uG,hZ,Zbr,Zcr,Zbc,<- Zbf,hmd];exact hs
   .rw [eq,Zbr,Zax (1000000000 ^ i),<- Zbc];exact Zbe (Zao _ (by omega)) hb
  rw [Zaa c,Zam,zB,ja.v5,zD,zG,zK,zA,ja.qi,vK (by omega),zA,zA,ja.fC,ji,zB,ja.v6];by_cases d:y.tmod 1000000000<0
  .rw [Zab d,zD,ja.fH,kz (by omega)];exact fin _ _ _ (by omega)
  .rw [Zaa d,zC,zG];exact fin _ _ _ (by omega)
theorem tT (s:List UInt8) {K:AV->OP}:uH (.str s) K=K (I s.length):=by
 show (dx s.length λn=>K (.int .i64 (.ofNat n)))=_;rw [yJ];rfl
theorem tCat {a b:List UInt8} {K:AV->OP} (h:a.length+b.length<=1000000):za .add .str (.str a) (.str b) K=K (.str (a++b)):=by
 show (bif Nat.ble (a.length+b.length) 1000000 then K (.str (a++b)) else .no 5)=_;rw [Zae h];rfl
theorem tSub {s:List UInt8} {a b:Nat} {x y:Int} {K:AV->OP} (hx:x=(a:Int)) (hy:y=(b:Int)) (hab:a<=b) (hb:b<=s.length):jR (.str s) (some (I x)) (some (I y)) K=K (.str ((s.drop a).take (b-a))):=by
 subst hx;subst hy
 show (match bnd (some (I (b:Int))) s.length s.length with
   | none=>Out.no 18
   | some h=>match bnd (some (I (a:Int))) h 0 with
    | none=>.no 18
    | some l=>K (.str ((s.drop l).take (h-l))))=_
 rw [wF hb]
 dsimp only
 rw [wF hab]
theorem d7 {s:List UInt8} {a:Nat} {x:Int} {K:AV->OP} (hx:x=(a:Int)) (ha:a<=s.length):jR (.str s) (some (I x)) none K=K (.str (s.drop a)):=by
 subst hx
 show (match bnd (some (I (a:Int))) s.length 0 with
    | none=>Out.no 18
    | some l=>K (.str ((s.drop l).take (s.length-l))))=_
 rw [wF ha]
 dsimp only
 rw [Zaf (by rw [Zcb];omega)]
theorem tTo {s:List UInt8} {b:Nat} {y:Int} {K:AV->OP} (hy:y=(b:Int)) (hb:b<=s.length):jR (.str s) none (some (I y)) K=K (.str (s.take b)):=by
 subst hy
 show (match bnd (some (I (b:Int))) s.length s.length with
   | none=>Out.no 18
   | some h=>K (.str ((s.drop 0).take (h-0))))=_
 rw [wF hb];rfl
def dch (x:Nat):UInt8:=UInt8.ofNat (48+x)
def sw (n w:Nat):List Nat:=dg 10 n++List.replicate (w-(dg 10 n).length) 0
def uw (n w:Nat):List UInt8:=(sw n w).reverse.map dch
theorem zuz:∀ n<10,(([48,49,50,51,52,53,54,55,56,57]:List UInt8).drop n).take 1=[dch n]:=by decide +kernel
theorem zdi {y w:Nat} (h:0<y\/0<w):sw y w=y%10::sw (y / 10) (w-1):=by
 unfold sw;rcases Zbx y with e | e
 .subst e;obtain ⟨v,rfl⟩:∃ v,w=v+1:=⟨w-1,by omega⟩;rw [Nat.zero_div,j3]
  rfl
 .rw [uV (by decide) (by omega),Zbw,Zbm,show w-((dg 10 (y / 10)).length+1)=w-1-(dg 10 (y / 10)).length by omega]
theorem zdj:sw 0 0=[]:=by unfold sw;rw [j3];rfl
theorem zhf {n w:Nat} (hn:n<10 ^ 19) (hw:w<=19):(sw n w).length<=19:=by
 have:=uN (b:=10) (by decide) hn;unfold sw;rw [Zah,Zay];omega
theorem xV {n w:Nat} (hn:n<=9223372036854775807) (hw:w<=19):Pure Tryz.prog B 211 [I (n:Int),I (w:Int)] (· = .str (uw n w)):=by
 refine zX λh nx K H0 hK=>zN zQ yD (n+w+10) λhf => ?_;rw [jg.go,jg.t16,zA,jg.zy,zA,jg.zx,zA,zK];refine jg.znw (λm x0 x3 h' nx'=>∃ (y:Nat) (A:List Nat),x0=I (y:Int)/\x3=.str (A.reverse.map dch)/\m=y+(w-A.length)/\y<=9223372036854775807/\sw n w=A++sw y (w-A.length)/\h'=h/\nx'=nx) (m:=n+w) (by omega) ⟨n,[],rfl,rfl,rfl,hn,rfl,rfl,rfl⟩ ?_;rintro m z0 z3 z4 h3 nx3 R ⟨y,A,rfl,rfl,hm,hy,he,rfl,rfl⟩ hR;have hlen:=zhf (n:=n) (w:=w) (by omega) hw;have hAl:A.length<=19:=by
  have:=congrArg List.length he;rw [Zah] at this;omega
 have go:0<y\/0<w-A.length->jg.t3.run (CS Tryz.prog B) (n+w+10) ((fnO jg.res K).blk 0 (jg.t13.run (CS Tryz.prog B) (n+w+10) (fnO jg.res K) (zi jg.res K))) (jg.t8.run (CS Tryz.prog B) (n+w+10) ((fnO jg.res K).blk 0 (jg.t13.run (CS Tryz.prog B) (n+w+10) (fnO jg.res K) (zi jg.res K))) R) (jg.fr (I (y:Int)) (I (w:Int)) (.str []) (.str (A.reverse.map dch)) (.bool true)) h3 nx3=.ok True:=by
  intro hp;have hst:=zdi hp;rw [hst] at he;have e1:(y:Int).tmod 10=((y%10:Nat):Int):=by rw [Zcc (by omega)];omega
  have e2:(y:Int).tdiv 10=((y / 10:Nat):Int):=by rw [Zcd (by omega)];omega
  have hA1:A.length<=18:=by
   have:=congrArg List.length he;rw [Zah,Zbm] at this;omega
  rw [jg.t3,zB,jg.v4,zD,zG,jg.t8,zK,zA,jg.fG,vK (by omega),e1,vK (by omega),e1,jc (by omega),tSub (a:=y%10) (b:=y%10+1) rfl (by omega) (by omega) (by simp;omega),Zdc,zuz _ (Zby _ (by decide)),tCat (by simp;omega),jg.qi,vC (by omega) (by omega),e2];refine hR (y / 10+(w-(A.length+1))) _ _ _ _ _ (by omega) ⟨y / 10,A++[y%10],rfl,by simp,by rw [Zah];rfl,by omega,by rw [he,Zbl];simp [Nat.sub_sub],rfl,rfl⟩
 rw [jg.t9,zA,zA,jg.je,jg.r2_0,jg.zid,xq];by_cases c:0<y
 .rw [Zab (by omega)];simp only [jC,uF,zW];exact go (.inl c)
 rw [Zaa (by omega)];simp only [yI];rw [tT,ji];simp only [zY];by_cases d:A.length<w
 .rw [Zab (by simp;omega)];exact go (.inr (by omega))
 obtain rfl:y=0:=by omega
 rw [show w-A.length=0 by omega,zdj,Zbj] at he;rw [Zaa (by simp;omega),jg.t3,zB,jg.v4,zC,zZ,yE,jg.t13,zA,jg.rP];simp only [zI,zO];rw [jg.ret];exact hK _ _ _ _ _ H0 (zT rfl) (by rw [uw,he])
theorem zhg (b:Nat):∀ k,bv b (List.replicate k 0)=0
 | 0=>rfl
 | k+1=>by rw [Zee,bv,zhg b k];simp
theorem mE (n w:Nat):bv 10 (sw n w)=n:=by
 unfold sw;rw [uO,(gL (b:=10) (by decide) n).1,zhg,Zfg,Zco]
theorem wO (n w:Nat):Dg 10 (sw n w):=(gL (b:=10) (by decide) n).2.1.append (Dg.rep (by decide))
theorem bU {n w:Nat} (h:n<10 ^ w):(sw n w).length=w:=by
 have:=uN (b:=10) (by decide) h;unfold sw;rw [Zah,Zay];omega
theorem xE {n:Nat} (h:n≠0):sw n 1=dg 10 n:=by
 have e:1<=(dg 10 n).length:=by rw [uV (by decide) h];simp
 unfold sw;rw [show 1-(dg 10 n).length=0 by omega];simp
theorem zmh {x V:Nat} (hx:x<1000000000) (hV:V≠0):dg 10 (x+1000000000*V)=sw x 9++dg 10 V:=by
 have oV:=gL (b:=10) (by decide) V;have e:bv 10 (sw x 9++dg 10 V)=x+1000000000*V:=by
  rw [uO,mE,bU (by omega),oV.1]
 rw [<- e];refine (bO (by decide) ((wO x 9).append oV.2.1) ?_).symm;have hn:dg 10 V≠[]:=by rw [uV (by decide) hV];simp
 have:=oV.2.2;unfold Nm at *
 rw [List.getLast?_append];cases hl:(dg 10 V).getLast? with
 | none=>exact absurd (List.getLast?_eq_none_iff.1 hl) hn
 | some y=>rw [hl] at this;exact this
theorem zmi {x V:Nat} (hx:x<1000000000) (hV:V≠0):uw (x+1000000000*V) 1=uw V 1++uw x 9:=by
 have hs:x+1000000000*V≠0:=by omega
 unfold uw;rw [xE hs,xE hV,zmh hx hV];simp
def cZ (z:Int):List UInt8:=(if z<0 then [45] else [])++uw z.natAbs 1
theorem wE {n k:Nat} (h:n<1000000000 ^ k):(uw n 1).length<=9*k+1:=by
 have e:1000000000 ^ k=10 ^ (9*k):=by rw [Nat.pow_mul]
 have:=uN (b:=10) (n:=9*k) (by decide) (by rw [<- e];exact h);unfold uw sw;simp;omega
theorem xK:uw 0 1=[48]:=by unfold uw sw;rw [j3];rfl
theorem zez {z:Int} {k:Nat} (hk:k<=90000) (hz:Z9 k z):Pure Tryz.prog B 133 [sS z] (· = .str (cZ z)):=by
 have oz:=gL (b:=1000000000) (by decide) z.natAbs;have lz:=hz.len;rw [qH];refine zX λh nx K H0 hK=>zN zQ yD 1000010 λhf => ?_;rw [jb.go,jb.t30,zA,jb.zy];refine H0.box (l:=[.bool (decide (z<0)),jm (dg 1000000000 z.natAbs)]) rfl λpa h1 nx1 H1 => ?_;rw [zA,zA,jb.zx,sFx,H1.load (k:=0) (i:=0+1) rfl rfl,dLen,dh,zB,jb.v5];by_cases c:z.natAbs=0
 .rw [c,j3,Zab (by rfl),zD,zA,jb.je];simp only [zI,zO];rw [jb.ret];refine hK _ _ _ _ _ H1 (zT rfl) ?_;rw [cZ,c,if_neg (by omega),xK];rfl
 have hn1:=zb7 c;obtain ⟨n,hn⟩:∃ n,(dg 1000000000 z.natAbs).length=n+1:=⟨(dg 1000000000 z.natAbs).length-1,by omega⟩;have htop:=getD_some (l:=dg 1000000000 z.natAbs) (k:=n) (by omega);have htW:=jY (k:=n) (by decide) oz.2.1;have ht1:(dg 1000000000 z.natAbs).getD n 0≠0:=by
  have:=oz.2.2;unfold Nm at this;rw [List.getLast?_eq_getElem?,hn,Nat.add_sub_cancel,htop] at this;intro q;rw [q] at this;exact this rfl
 rw [Zaa (by omega),zC,zG,zA,jb.qi,sFx,H1.load (k:=0) (i:=0+1) rfl rfl,sFx,H1.load (k:=0) (i:=0+1) rfl rfl,dLen,kz (by omega),dIx (i:=n) (by omega) (by omega),dLd htop];refine xV (w:=1) (by omega) (by omega) _ _ _ _ ?_;rintro _ rfl _;rw [zA,zA,jb.fC,sFx,H1.load (k:=0) (i:=0+1) rfl rfl,dLen,kz (by omega),zK];have hdrop:∀ i,i<n+1->(dg 1000000000 z.natAbs).drop i=(dg 1000000000 z.natAbs).getD i 0::(dg 1000000000 z.natAbs).drop (i+1):=λi hi=>by
  have ea:=getD_some (l:=dg 1000000000 z.natAbs) (k:=i) (by omega);rw [List.getElem?_eq_getElem (by omega)] at ea;rw [Zaw (by omega),Option.some.inj ea]
 have hlast:(dg 1000000000 z.natAbs).drop (n+1)=[]:=Zbn (by omega);refine jb.aL (λm x3 x4 h' nx'=>m<=n/\x3=.str (uw (bv 1000000000 ((dg 1000000000 z.natAbs).drop m)) 1)/\x4=I ((m:Int)-1)/\bv 1000000000 ((dg 1000000000 z.natAbs).drop m)≠0/\h'=h1/\nx'=nx1) (m:=n) (by omega) ⟨by omega,by rw [hdrop n (by omega),hlast];simp [bv],by congr 1;omega,by rw [hdrop n (by omega),hlast];simpa [bv] using ht1,rfl,rfl⟩ ?_;rintro m z3 z4 z6 h3 nx3 R ⟨hm,rfl,rfl,hV,rfl,rfl⟩ hR;rw [jb.t15,zA,zA,jb.fH,fe];cases m with
 | zero =>
  rw [Zdb,oz.1,Zaa (show ¬ ((0:Int)<=((0:Nat):Int)-1) by omega),zB,jb.v6,zC,zZ,yE,zA,zA,jb.sV,sFx,H1.load (k:=0) (i:=0+0) rfl rfl,zB,jb.v7];have hl:=wE hz;by_cases d:z<0
  .rw [Zab d,zD,zA,jb.ah,tCat (by simp;omega)];simp only [zI,zO];rw [jb.ret];exact hK _ _ _ _ _ H1 (zT rfl) (by rw [cZ,if_pos d])
  .rw [Zaa d,zC,zG,zA,jb.oD];simp only [zI,zO];rw [jb.ret];exact hK _ _ _ _ _ H1 (zT rfl) (by rw [cZ,if_neg d];rfl)
 | succ m =>
  have ea:=getD_some (l:=dg 1000000000 z.natAbs) (k:=m) (by omega);have haW:=jY (k:=m) (by decide) oz.2.1;have hl:(uw (bv 1000000000 ((dg 1000000000 z.natAbs).drop (m+1))) 1).length<=9*k+1:=by
   refine wE (Zdr ?_ hz);have e:=mV (b:=1000000000) (l:=dg 1000000000 z.natAbs) (k:=m+1) (by omega);rw [oz.1] at e;have e2:1*bv 1000000000 ((dg 1000000000 z.natAbs).drop (m+1))<=1000000000 ^ (m+1)*bv 1000000000 ((dg 1000000000 z.natAbs).drop (m+1)):=Zao _ (Zew (by decide));omega
  rw [Zab (show (0:Int)<=((m+1:Nat):Int)-1 by omega),zB,jb.v6,zD,zG,zA,zK,jb.di,sFx,H1.load (k:=0) (i:=0+1) rfl rfl,dIx (i:=m) (by omega) (by omega),dLd ea];refine xV (w:=9) (by omega) (by omega) _ _ _ _ ?_;rintro _ rfl _;have h9:(uw ((dg 1000000000 z.natAbs).getD m 0) 9).length=9:=by unfold uw;rw [Zal,Zcv,bU (by omega)]
  have e:bv 1000000000 ((dg 1000000000 z.natAbs).drop m)=(dg 1000000000 z.natAbs).getD m 0+1000000000*bv 1000000000 ((dg 1000000000 z.natAbs).drop (m+1)):=by rw [hdrop m (by omega),bv]
  rw [tCat (by omega),jb.fU,kz (by omega)];refine hR m _ _ _ _ _ (by omega) ⟨by omega,by rw [e,zmi haW hV],by congr 1;omega,by rw [e];omega,rfl,rfl⟩
theorem oW {s:List UInt8} {i:Nat} {x:Int} {c:UInt8} {K:AV->OP} (hx:x=(i:Int)) (hc:s[i]? = some c):jM (.str s) (I x) K=K (.int .u8 (c.toNat:Int)):=by
 subst hx
 show (match s[i]? with
   | some b=>dx b.toNat λn=>K (.int .u8 (.ofNat n))
   | none=>.no 16)=_
 rw [hc]
 dsimp only
 rw [yJ];rfl
theorem ze0 {x:Nat} (h:x<10):(dch x).toNat=48+x:=by
 have:∀ x<10,(dch x).toNat=48+x:=by decide +kernel
 exact this x h
theorem zhh {l:List Nat} {i:Nat} (hi:i<l.length):bv 10 (l.take (i+1)).reverse=l.getD i 0+10*bv 10 (l.take i).reverse:=by
 rw [Zar,getD_some hi];simp [bv]
theorem bP {l:List Nat} (h:Dg 10 l):bv 10 l.reverse<10 ^ l.length:=by
 have:=vE (b:=10) (l:=l.reverse) (by decide) (λx hx=>h x (by simpa using hx))
 rwa [Zcv] at this
theorem zb9 {l:List Nat} (hd:Dg 10 l) (hl:l.length<=18):Pure Tryz.prog B 209 [.str (l.map dch)] (· = I ((bv 10 l.reverse:Nat):Int)):=by
 refine zX λh nx K H0 hK=>zN zQ yD 100 λhf => ?_;rw [uo.go,uo.t18,zA,uo.zy,zA,uo.zx,zA,zA,uo.je,zK];refine uo.zfx (λm x2 x3 h' nx'=>∃ i:Nat,x2=I ((bv 10 (l.take i).reverse:Nat):Int)/\x3=I (i:Int)/\m+i=l.length/\h'=h/\nx'=nx) (m:=l.length) (by omega) ⟨0,rfl,rfl,rfl,rfl,rfl⟩ ?_;rintro m z2 z3 z4 h3 nx3 R ⟨i,rfl,rfl,hm,rfl,rfl⟩ hR;rw [uo.t10,zA,zA,uo.pq,tT,Zal,ji];by_cases c:i<l.length
 .have hx:=jY (k:=i) (by decide) hd;have ec:(l.map dch)[i]? = some (dch (l.getD i 0)):=by rw [List.getElem?_map,getD_some c];rfl
  have hb:=bP (l:=l.take i) hd.take;rw [Zan,Zbu (by omega)] at hb;have hp:10 ^ i<=10 ^ 17:=Zdo (by decide) (by omega);have hs:=zhh c;rw [Zab (by omega),zB,uo.v4,zD,zG,zA,zK,uo.qi,fO (by omega),oW (i:=i) rfl ec,ze0 hx,zet (by omega),jc (by omega),kz (by omega),uo.fH,jc (by omega)];exact hR (m-1) _ _ _ _ _ (by omega) ⟨i+1,by congr 1;omega,rfl,by omega,rfl,rfl⟩
 .rw [Zaa (by omega),zB,uo.v4,zC,zZ,yE,zA,uo.sD];simp only [zI,zO];rw [uo.ret];exact hK _ _ _ _ _ H0 (zT rfl) (by rw [Zaf (by omega)])
theorem zrs {l:List Nat} {neg:Bool} (hd:Dg 10 l) (hl1:1<=l.length) (hl:l.length<=900000):Pure Tryz.prog B 205 [.str ((if neg then [45] else [])++l.map dch)] (· = sS (if neg then -((bv 10 l.reverse:Nat):Int) else ((bv 10 l.reverse:Nat):Int))):=by
 refine zX λh nx K H0 hK=>zN zQ yD 1000010 λhf => ?_;rw [jf.go,jf.t23,zA,jf.zy];refine H0.alloc λp h1 nx1 H1 => ?_;have main:∀ x4:AV,jf.t20.run (CS Tryz.prog B) 1000010 (fnO jf.res K) (zi jf.res K) (jf.fr (.str (l.map dch)) (.ptr p 0) (.bool neg) .u x4 .u) h1 nx1=.ok True:=by
  intro x4;rw [jf.t20,zA,jf.qi,zA,zK];refine jf.zfy (λm x0 x3 h' nx'=>∃ (i:Nat) (Z:List Nat) (o:Option Pa),x0=.str ((l.take m).map dch)/\x3=xg o 1 i/\1<=m/\m+9*i=l.length/\Z.length=i/\Dg 1000000000 Z/\bv 1000000000 Z+1000000000 ^ i*bv 10 (l.take m).reverse=bv 10 l.reverse/\Hp h h' nx' [.gro o 1 i (Z.map D),.arr p [.bool false,.ze]]) (m:=l.length) (by omega) ⟨0,[],none,by rw [Zet],rfl,hl1,rfl,rfl,λ_ h=>by simp at h,by simp [bv],H1.oK 1⟩ ?_;rintro m z0 z3 z5 h3 nx3 R ⟨i,Z,o,rfl,rfl,hm1,hm,hZ,hdZ,hs,H3⟩ hR;have hlm:(l.take m).length=m:=by rw [Zan];omega
  rw [jf.t14,zA,zA,jf.fC,tT,Zal,hlm,xq];by_cases c:9<m
  .have hlt:(l.take m).take (m-9)=l.take (m-9):=by rw [List.take_take,Zbu (by omega)]
   have hpl:((l.take m).drop (m-9)).length=9:=by rw [Zcb];omega
   have hpd:Dg 10 ((l.take m).drop (m-9)):=λx hx=>hd x (Zcl (Zeu hx));have hpb:=bP hpd;rw [hpl] at hpb;have hsp:bv 10 (l.take m).reverse=bv 10 ((l.take m).drop (m-9)).reverse+1000000000*bv 10 (l.take (m-9)).reverse:=by
    have e:l.take m=l.take (m-9)++(l.take m).drop (m-9):=by rw [<- hlt,Zcw]
    conv=>lhs;rw [e]
    rw [List.reverse_append,uO,Zcv,hpl]
   rw [Zab (by omega),zB,jf.v5,zD,zG,zK,zA,jf.fT,tT,Zal,hlm,kz (by omega),d7 (a:=m-9) (by omega) (by rw [Zal,hlm];omega),<- List.map_drop];refine zb9 hpd (by omega) _ _ _ _ ?_;rintro _ rfl _;refine H3.zdg (v:=D (bv 10 ((l.take m).drop (m-9)).reverse)) (by omega) (by decide) rfl rfl λo' h4 n4 H4 => ?_;rw [jf.di,tT,Zal,hlm,kz (by omega),tTo (b:=m-9) (by omega) (by rw [Zal,hlm];omega),<- Zev,hlt];refine hR (m-9) _ _ _ _ _ (by omega) ⟨i+1,Z++[bv 10 ((l.take m).drop (m-9)).reverse],o',rfl,rfl,by omega,by omega,by simp [hZ],hdZ.append (Dg.one hpb),?_,by rw [Zbb];exact H4⟩;rw [uG,hZ,Zbr,Zcr,Zbc,<- Zbf,<- hsp];exact hs
  .have hpd:Dg 10 (l.take m):=hd.take;have hpb:=bP hpd;rw [hlm] at hpb;have hp:10 ^ m<=10 ^ 9:=Zdo (by decide) (by omega);rw [Zaa (by omega),zB,jf.v5,zC,zZ,yE,zA,jf.rX];refine zb9 hpd (by omega) _ _ _ _ ?_;rintro _ rfl _;refine H3.zdg (v:=D (bv 10 (l.take m).reverse)) (by omega) (by decide) rfl rfl λo' h4 n4 H4 => ?_;rw [show Z.map D++[D (bv 10 (l.take m).reverse)]=(Z++[bv 10 (l.take m).reverse]).map D by rw [Zbb];rfl] at H4;obtain ⟨h5,hkp,H5,hF⟩:=H4.zew (by simp [hZ]);refine vB hkp (.cons (.bool _) (.cons hF .nil)) ?_;refine uK (hdZ.append (Dg.one (by omega))) (by simp;omega) _ _ _ _ ?_;rintro _ rfl _;rw [uG,hZ,hs]
   generalize (if neg=true then -((bv 10 l.reverse:Nat):Int) else ((bv 10 l.reverse:Nat):Int))=z at *
   refine H5.jd (l2:=[.bool (decide (z<0)),jm (dg 1000000000 z.natAbs)]) (k:=0) rfl rfl rfl λh6 H6 => ?_;simp only [zI,zO];rw [jf.ret,H6.zw (k:=0) (n:=2) rfl rfl];exact hK _ _ _ _ _ H6 dAgg rfl
 cases neg with
 | true =>
  rw [if_pos rfl,zA,jf.zx,tT,xq,Zab (by simp)];simp only [yH];rw [oW (s:=[45]++l.map dch) (i:=0) (x:=0) (c:=45) rfl rfl,dh];simp only [zW];rw [show decide (((45:UInt8).toNat:Int)=45)=true from rfl,zA,zA,jf.je,zB,jf.v4,zD,jf.pq,d7 (s:=[45]++l.map dch) (a:=1) (x:=1) rfl (by simp)];exact main _
 | false =>
  have ec:(l.map dch)[0]? = some (dch (l.getD 0 0)):=by rw [List.getElem?_map,getD_some (by omega)];rfl
  have hx:=jY (k:=0) (by decide) hd;rw [if_neg (by decide),Zbq,zA,jf.zx,tT,Zal,xq,Zab (by omega)];simp only [yH];rw [oW (i:=0) (x:=0) rfl ec,dh,ze0 hx];simp only [zW];rw [Zaa (by omega),zA,zA,jf.je,zB,jf.v4,zC,zG];exact main _
theorem pX {s:List UInt8} {j:Nat} (hl:s.length<=1000000) (hj:j<=s.length) (hb:∀ i c,i<j->s[i]? = some c->c≠47) (he:j=s.length\/s[j]? = some 47):Pure Tryz.prog B 206 [.str s] (· = I (j:Int)):=by
 refine zX λh nx K H0 hK=>zN zQ yD 1000010 λhf => ?_;rw [gm.go,gm.t20,zA,gm.zy,zA,zA,gm.zx,zK];refine gm.znx (λm x2 h' nx'=>∃ i:Nat,x2=I (i:Int)/\m+i=j/\h'=h/\nx'=nx) (m:=j) (by omega) ⟨0,rfl,rfl,rfl,rfl⟩ ?_;rintro m z1 z2 z3 z4 h3 nx3 R ⟨i,rfl,hm,rfl,rfl⟩ hR;rw [gm.t13,zA,zA,gm.je,tT,ji];by_cases c:i<s.length
 .have ec:=List.getElem?_eq_getElem c;rw [Zab (by omega),zB,gm.v3,zD,zG,zA,zK,zA,gm.fG,oW (i:=i) rfl ec,dh,zB,gm.v4];by_cases d:i<j
  .have hn:=hb i _ d ec
   have hn2:¬ ((s[i].toNat:Int)=47):=λq=>hn (by
    have:s[i].toNat=(47:UInt8).toNat:=by
     have e:(47:UInt8).toNat=47:=rfl;omega
    exact UInt8.toNat_inj.1 this)
   rw [Zaa hn2,zC,zG,gm.di,jc (by omega)];exact hR (m-1) _ _ _ _ _ _ (by omega) ⟨i+1,rfl,by omega,rfl,rfl⟩
  .obtain rfl:i=j:=by omega
   have e47:s[i]=47:=by
    rcases he with e | e
    .omega
    .rw [ec] at e;exact Option.some.inj e
   rw [e47,show decide (((47:UInt8).toNat:Int)=47)=true from rfl,zD,zA,gm.qi];simp only [zI,xA,zO];rw [gm.ret];exact hK _ _ _ _ _ H0 (zT rfl) rfl
 .obtain rfl:i=j:=by omega
  rw [Zaa (by omega),zB,gm.v3,zC,zZ,yE,zA,gm.rX,tT];simp only [zI,zO];rw [gm.ret];exact hK _ _ _ _ _ H0 (zT rfl) (by congr 1;omega)
def uz (q:Rat):List UInt8:=cZ q.num++(if q.den=1 then [] else 47::cZ (q.den:Int))
theorem zzk {x:Nat} (h:x<10):dch x≠47:=by
 have:∀ x<10,dch x≠47:=by decide +kernel
 exact this x h
theorem dR {z:Int} {c:UInt8} (h:c∈cZ z):c≠47:=by
 unfold cZ uw at h;rcases List.mem_append.1 h with q | q
 .split at q
  .rw [List.mem_singleton.1 q];decide
  .cases q
 .obtain ⟨x,hx,rfl⟩:=List.mem_map.1 q;exact zzk (wO _ _ x (by simpa using hx))
theorem xI {z:Int} {k:Nat} (h:Z9 k z):(cZ z).length<=9*k+2:=by
 have:=wE h;unfold cZ;rw [Zah];split <;> simp <;> omega
theorem zhi (n:Nat):1<=(sw n 1).length:=by unfold sw;rw [Zah,Zay];omega
theorem zjo {z:Int} {k:Nat} (hk:k<=90000) (hz:Z9 k z):Pure Tryz.prog B 205 [.str (cZ z)] (· = sS z):=by
 have hl:=wE hz;unfold uw at hl;rw [Zal,Zcv] at hl;have hp:=zrs (B:=B) (l:=(sw z.natAbs 1).reverse) (neg:=decide (z<0)) (λx hx=>wO _ _ x (by simpa using hx)) (by rw [Zcv];exact zhi _) (by rw [Zcv];omega);rw [Zfw,mE] at hp;have e1:(if decide (z<0)=true then [45] else [])++(sw z.natAbs 1).reverse.map dch=cZ z:=by
  unfold cZ uw;by_cases d:z<0
  .rw [if_pos d,if_pos (Zab d)]
  .rw [if_neg d,if_neg (by rw [Zaa d];decide)]
 have e2:(if decide (z<0)=true then -((z.natAbs:Nat):Int) else ((z.natAbs:Nat):Int))=z:=by
  by_cases d:z<0
  .rw [if_pos (Zab d)];omega
  .rw [if_neg (by rw [Zaa d];decide)];omega
 rw [e1,e2] at hp;exact hp
theorem vP {q:Rat} {k:Nat} (hk:k<=40000) (hn:Z9 k q.num) (hd:Z9 k (q.den:Int)):Pure Tryz.prog B 129 [.str (uz q)] (· = .tup [sS q.num,sS (q.den:Int)]):=by
 refine zX λh nx K H0 hK=>zN zQ yD 100 λhf => ?_;have l1:=xI hn;have l2:=xI hd;rw [qm.go,qm.t13,zA,qm.zy];refine H0.alloc λp1 h1 nx1 H1 => ?_;refine H1.alloc λp2 h2 nx2 H2 => ?_;rw [zA,qm.zx,zA,qm.je];by_cases c:q.den=1
 .have e:uz q=cZ q.num:=by unfold uz;rw [if_pos c,Zbj]
  rw [e];refine pX (j:=(cZ q.num).length) (by omega) (by omega) (λi c _ hc=>dR (Zad hc)) (.inl rfl) _ _ _ _ ?_;rintro _ rfl _;rw [zA,zA,qm.pq,tT,dh,Zab rfl,zB,qm.v5,zD,zA,qm.fJ];refine zjo (by omega) hn _ _ _ _ ?_;rintro _ rfl _;refine pT (by omega) _ _ _ _ ?_;rintro _ rfl _;refine H2.jd (l2:=[.bool (decide (q.num<0)),jm (dg 1000000000 q.num.natAbs)]) (k:=1) rfl rfl rfl λh3 H3 => ?_;refine H3.jd (l2:=[.bool (decide ((1:Int)<0)),jm (dg 1000000000 (1:Int).natAbs)]) (k:=0) rfl rfl rfl λh4 H4 => ?_;simp only [zI,zO];rw [qm.ret,H4.zw (k:=1) (n:=2) rfl rfl,H4.zw (k:=0) (n:=2) rfl rfl];exact hK _ _ _ _ _ H4 (gJ dAgg dAgg) (by rw [c];rfl)
 .have e:uz q=cZ q.num++47::cZ (q.den:Int):=by unfold uz;rw [if_neg c]
  have el:(uz q).length=(cZ q.num).length+((cZ (q.den:Int)).length+1):=by rw [e,Zah,Zbm]
  have et:(uz q).take (cZ q.num).length=cZ q.num:=by rw [e,Zfx];rfl
  have ed:(uz q).drop ((cZ q.num).length+1)=cZ (q.den:Int):=by rw [e,<- Zea,List.drop_left'];rfl;rfl
  refine pX (j:=(cZ q.num).length) (by omega) (by omega) (λi c hi hc => ?_) (.inr ?_) _ _ _ _ ?_
  .rw [e,List.getElem?_append_left hi] at hc;exact dR (Zad hc)
  .rw [e,List.getElem?_append_right (Zag _),Zct];rfl
  rintro _ rfl _;rw [zA,zA,qm.pq,tT,dh,Zaa (by omega),zB,qm.v5,zC,zG,zA,qm.fH,tTo (b:=(cZ q.num).length) rfl (by omega),et,jc (by omega),d7 (a:=(cZ q.num).length+1) (by omega) (by omega),ed];refine zjo (by omega) hn _ _ _ _ ?_;rintro _ rfl _;rw [d7 (a:=(cZ q.num).length+1) (by omega) (by omega),ed,zF,jc (by omega)];simp only [zF];refine zjo (by omega) hd _ _ _ _ ?_;rintro _ rfl _;refine H2.jd (l2:=[.bool (decide (q.num<0)),jm (dg 1000000000 q.num.natAbs)]) (k:=1) rfl rfl rfl λh3 H3 => ?_;refine H3.jd (l2:=[.bool (decide ((q.den:Int)<0)),jm (dg 1000000000 (q.den:Int).natAbs)]) (k:=0) rfl rfl rfl λh4 H4 => ?_;simp only [zI,zO];rw [qm.ret,H4.zw (k:=1) (n:=2) rfl rfl,H4.zw (k:=0) (n:=2) rfl rfl];exact hK _ _ _ _ _ H4 (gJ dAgg dAgg) rfl
theorem kT {n d:Int} (hd:0<d):(Rat.divInt n d).num=n / (Int.gcd n d:Int)/\((Rat.divInt n d).den:Int)=d / (Int.gcd n d:Int):=by
 refine ⟨?_,?_⟩
 .rw [Rat.num_divInt,Int.sign_eq_one_of_pos hd,Int.one_mul,Int.gcd_comm]
 .rw [Rat.den_divInt,if_neg (by omega),Int.gcd_comm,Int.natCast_ediv]
  congr 1
  omega
theorem zu0:dg 1000000000 1=[1]:=by rw [uV (by decide) (by decide),show 1 / 1000000000=0 from rfl,j3]
theorem zu1 {a g:Int} (hg:0<g) (hd:g∣a):(if decide (a<0)=true then -((a.natAbs / g.natAbs:Nat):Int) else ((a.natAbs / g.natAbs:Nat):Int))=a / g:=by
 obtain ⟨t,rfl⟩:=hd;rw [Zcg,Nat.mul_div_cancel_left _ (by omega),Int.mul_ediv_cancel_left _ (by omega)];by_cases d:t<0
 .rw [if_pos (Zab (Int.mul_neg_of_pos_of_neg hg d))];omega
 .have:0<=g*t:=Zgc (by omega) (by omega);rw [if_neg (by rw [Zaa (by omega)];decide)];omega
theorem vX {a b:Int} {k:Nat} (hk:k<=40000) (ha:Z9 k a) (hb:Z9 k b) (hb0:b≠0):Pure Tryz.prog B 130 [sS a,sS b] (· = .str (uz (Rat.divInt a b))):=by
 refine zX λh nx K H0 hK=>zN zQ yD 100 λhf => ?_;rw [yt.go,yt.t22,zA,yt.zy];refine H0.box (l:=[.bool (decide (a<0)),jm (dg 1000000000 a.natAbs)]) rfl λpa h1 nx1 H1 => ?_;refine H1.box (l:=[.bool (decide (b<0)),jm (dg 1000000000 b.natAbs)]) rfl λpb h2 nx2 H2 => ?_
 have tail:∀ {h3:T Blk} {nx3:Pa} {a b:Int} {x9:AV},Z9 k a->Z9 k b->0<b->(∀ v h' nx' L v',Hp h h' nx' L->tQ h h' v v'->v'=.str (uz (Rat.divInt a b))->K v h' nx'=.ok True)->Hp h h3 nx3 [.arr pb [.bool (decide (b<0)),jm (dg 1000000000 b.natAbs)],.arr pa [.bool (decide (a<0)),jm (dg 1000000000 a.natAbs)]]->∀ {x0 x1:AV},
   IR.run yt.t20 (CS Tryz.prog B) 100 (fnO yt.res K) (zi yt.res K) (yt.fr x0 x1 (.ptr pa 0) (.ptr pb 0) (.str []) .u .u .u .u x9 .u) h3 nx3=.ok True:=by
  intro h3 nx3 a b x9 ha hb hb0 hK H x0 x1;have la:=ha.len;have lb:=hb.len;have hg:0<Nat.gcd a.natAbs b.natAbs:=Nat.gcd_pos_of_pos_right _ (by omega);have hgl:Nat.gcd a.natAbs b.natAbs<=b.natAbs:=Nat.le_of_dvd (by omega) (Nat.gcd_dvd_right ..);obtain ⟨d1,d2⟩:=kT (n:=a) (d:=b) hb0;have eg:(Int.gcd a b:Int)=((Nat.gcd a.natAbs b.natAbs:Nat):Int):=rfl;have hsg:=zu1 (a:=a) (g:=(Int.gcd a b:Int)) (by rw [eg];omega) (Zed ..);rw [<- d1,eg,Zbp] at hsg;have hden:(Rat.divInt a b).den=b.natAbs / Nat.gcd a.natAbs b.natAbs:=by
   have e3:b / ((Nat.gcd a.natAbs b.natAbs:Nat):Int)=((b.natAbs / Nat.gcd a.natAbs b.natAbs:Nat):Int):=by
    rw [Int.natCast_ediv]
    congr 1
    omega
   rw [eg,e3] at d2;exact Int.natCast_inj.1 d2
  have hqn:Z9 k (Rat.divInt a b).num:=by
   unfold Z9 at *
   have e4:(Rat.divInt a b).num.natAbs=a.natAbs / Nat.gcd a.natAbs b.natAbs:=by
    rw [<- hsg];split
    .rw [Zeb,Zbp]
    .rw [Zbp]
   rw [e4];exact Zdr (Zbz _ _) ha
  have hqd:Z9 k ((Rat.divInt a b).den:Int):=by
   unfold Z9 at *
   rw [hden,Zbp];exact Zdr (Zbz _ _) hb
  have l1:=xI hqn;have l2:=xI hqd;have oq:=gL (b:=1000000000) (by decide) (a.natAbs / Nat.gcd a.natAbs b.natAbs);have lq:=u5 (b:=1000000000) (by decide) (Zbz a.natAbs (Nat.gcd a.natAbs b.natAbs));have Sg:S9 (Nat.gcd a.natAbs b.natAbs):=by
   have:=u5 (b:=1000000000) (by decide) hgl;unfold S9;omega
  rw [yt.t20,zA,yt.fG,sFx,H.load (k:=1) (i:=0+1) rfl rfl,sFx,H.load (k:=0) (i:=0+1) rfl rfl];refine zdh (by unfold S9;omega) (by unfold S9;omega) _ _ _ _ ?_;rintro _ rfl _;rw [zA,yt.qi,sFx,H.load (k:=1) (i:=0+1) rfl rfl];refine bN hg (by unfold S9;omega) Sg _ _ _ _ ?_;rintro _ rfl _;rw [jE,jD,zA,yt.fC,sFx,H.load (k:=0) (i:=0+1) rfl rfl];refine bN hg (by unfold S9;omega) Sg _ _ _ _ ?_;rintro _ rfl _;rw [jE,jD,zA,yt.fH,sFx,H.load (k:=1) (i:=0+0) rfl rfl];refine uK oq.2.1 (by omega) _ _ _ _ ?_;rintro _ rfl _;rw [oq.1,hsg];refine zez (by omega) hqn _ _ _ _ ?_;rintro _ rfl _;rw [<- hden,zA,zA,yt.fK]
  generalize Rat.divInt a b=q at *
  have od:=gL (b:=1000000000) (by decide) q.den;by_cases c:q.den=1
  .rw [c,zu0,yt.r6_0,yt.zny,dLen,dh,Zab (by rfl)];simp only [yH];rw [dIx (l:=[1]) (i:=0) (j:=0) rfl (by simp),dLd (x:=1) rfl,dh,Zab (by rfl),yt.r6_1,yt.zih];simp only [zW];rw [zB,yt.v10,zD,zA,yt.fT];simp only [zI,zO];rw [yt.ret];exact hK _ _ _ _ _ H (zT rfl) (by rw [uz,if_pos c,Zbj])
  .have fin:∀ x10:AV,IR.run yt.t15 (CS Tryz.prog B) 100 (fnO yt.res K) (zi yt.res K) (yt.fr x0 x1 (.ptr pa 0) (.ptr pb 0) (.str []) (jm (dg 1000000000 (Nat.gcd a.natAbs b.natAbs))) (jm (dg 1000000000 (a.natAbs / Nat.gcd a.natAbs b.natAbs))) (jm (dg 1000000000 q.den)) (.str (cZ q.num)) x9 x10) h3 nx3=.ok True:=by
    intro x10;rw [yt.t15,zA,yt.sD,tCat (by simp;omega)];refine uK od.2.1 (by have:=hqd.len;rw [Zbp] at this;omega) _ _ _ _ ?_;rintro _ rfl _;rw [if_neg (by decide),od.1];refine zez (by omega) hqd _ _ _ _ ?_;rintro _ rfl _;rw [tCat (by simp;omega)];simp only [zI,zO];rw [yt.ret];exact hK _ _ _ _ _ H (zT rfl) (by rw [uz,if_neg c,Zbl];rfl)
   rw [yt.r6_0,yt.zny,dLen,dh];by_cases e:(dg 1000000000 q.den).length=1
   .obtain ⟨e1,e2⟩:=zb8 (b:=1000000000) (by decide) e;rw [Zab (by omega)];simp only [yH];rw [e1,dIx (l:=[q.den]) (i:=0) (j:=0) rfl (by simp),dLd (x:=q.den) rfl,dh,Zaa (by omega),yt.r6_1,yt.zih];simp only [zW];rw [zB,yt.v10,zC,zG];rw [<- e1];exact fin _
   .rw [Zaa (by omega)];simp only [jA,uF];rw [yt.r6_1,yt.zih];simp only [zY];rw [zB,yt.v10,zC,zG];exact fin _
 rw [zA,zA,yt.zx,sFx,H2.load (k:=0) (i:=0+0) rfl rfl,zB,yt.v9];by_cases c:b<0
 .rw [Zab c,zD,yt.je,H2.zw (k:=1) (n:=2) rfl rfl,H2.zw (k:=0) (n:=2) rfl rfl];have hma:Z9 k (-a):=by unfold Z9 at *;omega
  have hmb:Z9 k (-b):=by unfold Z9 at *;omega
  rw [<- qH a,<- qH b];refine zhe (by omega) ha _ _ _ _ ?_;rintro _ rfl _;rw [H2.zw (k:=0) (n:=2) rfl rfl,<- qH b,zF];refine zhe (by omega) hb _ _ _ _ ?_;rintro _ rfl _;refine H2.jd (l2:=[.bool (decide (-a<0)),jm (dg 1000000000 (-a).natAbs)]) (k:=1) rfl rfl rfl λh3 H3 => ?_;refine H3.jd (l2:=[.bool (decide (-b<0)),jm (dg 1000000000 (-b).natAbs)]) (k:=0) rfl rfl rfl λh4 H4 => ?_;exact tail hma hmb (by omega) (by rw [Zgf];exact hK) H4
 .rw [Zaa c,zC,zG];exact tail ha hb (by omega) hK (by rw [Zaa c] at H2 ⊢;exact H2)
def r9 (q:Rat):List UInt8:=uw q.num.natAbs 1++(if q.den=1 then [] else 47::uw q.den 1)
theorem dN (q:Rat):uz q=(if q.num<0 then [45] else [])++r9 q:=by
 unfold uz r9 cZ;rw [Zbl,if_neg (show ¬ ((q.den:Int)<0) by omega),Zbq,Zbp]
theorem wD (n:Nat):1<=(uw n 1).length:=by unfold uw;rw [Zal,Zcv];exact zhi n
theorem xL {n:Nat} {c:UInt8} (h:c∈uw n 1):c≠47/\c≠45:=by
 unfold uw at h;obtain ⟨x,hx,rfl⟩:=List.mem_map.1 h;have hx10:=wO n 1 x (by simpa using hx);have:∀ x<10,dch x≠47/\dch x≠45:=by decide +kernel
 exact this x hx10
theorem zrt {n:Nat} (hl:(uw n 1).length<=18):Pure Tryz.prog B 209 [.str (uw n 1)] (· = I (n:Int)):=by
 have hl2:=hl;unfold uw at hl2;rw [Zal] at hl2;have:=zb9 (B:=B) (l:=(sw n 1).reverse) (λx hx=>wO _ _ x (by simpa using hx)) hl2;rw [Zfw,mE] at this;exact this
theorem cM {n k:Nat} (hl:(uw n 1).length<=k):n<10 ^ k:=by
 have e:(sw n 1).length<=k:=by unfold uw at hl;simpa using hl
 have:=vE (b:=10) (by decide) (wO n 1);rw [mE] at this;exact Zdi this (Zdo (by decide) e)
theorem mC {q:Rat} (hs:(uz q).length<=1000000):Pure Tryz.prog B 127 [.str (uz q)] (λv=>∃ (a b:Int) (ok:Bool),v=.tup [I a,I b,.bool ok]/\(ok=true->a=q.num/\b=(q.den:Int)/\q.num.natAbs<10 ^ 9/\q.den<10 ^ 9)):=by
 refine zX λh nx K H0 hK=>zN zQ yD 100 λhf => ?_;have no:K (.tup [I 0,I 0,.bool false]) h nx=.ok True:=hK _ _ _ _ _ H0 (zbq (.int _ _) (.int _ _) (.bool _)) ⟨0,0,false,rfl,λe=>by cases e⟩;rw [zo.go,zo.t38,zA,zo.zy,zA,zo.zx,zA,zA,zo.je,tT,xq,zB,zo.v9];by_cases c0:20<(uz q).length
 .rw [Zab (by omega),zD,zA,zo.pq];simp only [zI,zO];rw [zo.ret];exact no
 rw [Zaa (by omega),zC,zG];have hd1:=wD q.num.natAbs;have hbl:(r9 q).length=(uw q.num.natAbs 1).length+(if q.den=1 then [] else 47::uw q.den 1).length:=by rw [r9,Zah]
 have hb20:(r9 q).length<=20:=by rw [dN,Zah] at c0;omega
 have main:∀ x10:AV,zo.t33.run (CS Tryz.prog B) 100 (fnO zo.res K) (zi zo.res K) (zo.fr (.str (uz q)) (I 0) (I 0) (.bool false) (.str (r9 q)) (.bool (decide (q.num<0))) .u .u .u (.bool false) x10 .u .u .u) h nx=.ok True:=by
  intro x10;have qda:∀ i c,i<(uw q.num.natAbs 1).length->(r9 q)[i]? = some c->c≠47:=λi c hi hc=>by
   rw [r9,List.getElem?_append_left hi] at hc;exact (xL (Zad hc)).1
  have hat:(uw q.num.natAbs 1).length=(r9 q).length\/(r9 q)[(uw q.num.natAbs 1).length]? = some 47:=by
   by_cases c:q.den=1
   .rw [if_pos c] at hbl;exact .inl (by simpa using hbl.symm)
   .right
    rw [r9,if_neg c,List.getElem?_append_right (Zag _),Zct];rfl
  have ht:(r9 q).take (uw q.num.natAbs 1).length=uw q.num.natAbs 1:=by rw [r9,Zfx];rfl
  rw [zo.t33,zA,zo.rP];refine pX (j:=(uw q.num.natAbs 1).length) (by omega) (by omega) qda hat _ _ _ _ ?_;rintro _ rfl _;rw [zA,zA,zo.fU,zo.r8_0,zo.zxv,xq];by_cases c1:9<(uw q.num.natAbs 1).length
  .rw [Zab (by omega)];simp only [jC,uF];rw [zo.r8_1,zo.znz];simp only [zW];rw [zB,zo.v11,zD,zA,zo.sD];simp only [zI,zO];rw [zo.ret];exact no
  rw [Zaa (by omega)];simp only [yI];rw [tT,kz (by omega),xq,zo.r8_1,zo.znz];simp only [zY];rw [zB,zo.v11];by_cases c2:10<(r9 q).length-(uw q.num.natAbs 1).length
  .rw [Zab (by omega),zD,zA,zo.sD];simp only [zI,zO];rw [zo.ret];exact no
  have hn9:=cM (n:=q.num.natAbs) (k:=9) (by omega);rw [Zaa (by omega),zC,zG,zA,zo.zn0,tTo (b:=(uw q.num.natAbs 1).length) rfl (by omega),ht];refine zrt (by omega) _ _ _ _ ?_;rintro _ rfl _;have fin:∀ x12:AV,q.den<10 ^ 9->zo.t29.run (CS Tryz.prog B) 100 (fnO zo.res K) (zi zo.res K) (zo.fr (.str (uz q)) (I 0) (I 0) (.bool false) (.str (r9 q)) (.bool (decide (q.num<0))) (I ((uw q.num.natAbs 1).length:Int)) (I (q.num.natAbs:Int)) (I (q.den:Int)) (.bool false) x10 (.bool false) x12 .u) h nx=.ok True:=by
   intro x12 hdn;rw [zo.t29,zA,zA,zo.zfn,zB,zo.v13];by_cases d:q.num<0
   .rw [Zab d,zD,zo.oD,kz (by omega),zA,zo.zac];simp only [zI,zO];rw [zo.ret];exact hK _ _ _ _ _ H0 (zbq (.int _ _) (.int _ _) (.bool _)) ⟨_,_,true,rfl,λ_=>⟨by omega,rfl,hn9,hdn⟩⟩
   .rw [Zaa d,zC,zG,zA,zo.zac];simp only [zI,zO];rw [zo.ret];exact hK _ _ _ _ _ H0 (zbq (.int _ _) (.int _ _) (.bool _)) ⟨_,_,true,rfl,λ_=>⟨by omega,rfl,hn9,hdn⟩⟩
  rw [zA,zA,zo.sV,tT,ji,zB,zo.v12];by_cases c:q.den=1
  .rw [if_pos c,Zfa,Zco] at hbl;rw [Zaa (by omega),zC,zG];have:=fin (.bool false) (by omega);rw [c] at this;exact this
  .rw [if_neg c,Zbm] at hbl;have ed:(r9 q).drop ((uw q.num.natAbs 1).length+1)=uw q.den 1:=by rw [r9,if_neg c,<- Zea,List.drop_left'];rfl;rfl
   rw [Zab (by omega),zD,zo.ah,jc (by omega),d7 (a:=(uw q.num.natAbs 1).length+1) (by omega) (by omega),ed];refine zrt (by omega) _ _ _ _ ?_;rintro _ rfl _;exact fin _ (cM (by omega))
 have hcut:uz q=(if q.num<0 then [45] else [])++r9 q:=dN q;by_cases d:q.num<0
 .rw [if_pos d] at hcut;have e0:(uz q)[0]? = some 45:=by rw [hcut];rfl
  have el:(uz q).length=(r9 q).length+1:=by rw [hcut];rfl
  have ed:(uz q).drop 1=r9 q:=by rw [hcut];rfl
  rw [zA,zo.fC,tT,xq,Zab (by omega)];simp only [yH];rw [oW (i:=0) (x:=0) rfl e0,dh];simp only [zW];rw [show decide (((45:UInt8).toNat:Int)=45)=true from rfl,zA,zA,zo.fH,zB,zo.v10,zD,zo.fK,d7 (a:=1) (x:=1) rfl (by omega),ed];have:=main (.bool true);rw [Zab d] at this;exact this
 .rw [if_neg d,Zbq] at hcut;obtain ⟨c0',hc0⟩:∃ c,(uw q.num.natAbs 1)[0]? = some c:=⟨_,List.getElem?_eq_getElem (by omega)⟩;have e0:(uz q)[0]? = some c0':=by rw [hcut,r9,List.getElem?_append_left (by omega),hc0]
  have hne:=(xL (Zad hc0)).2
  have hne2:¬ ((c0'.toNat:Int)=45):=λh=>hne (by
   have e:(45:UInt8).toNat=45:=rfl;have:c0'.toNat=(45:UInt8).toNat:=by omega
   exact UInt8.toNat_inj.1 this)
  rw [zA,zo.fC,tT,xq,Zab (by rw [hcut];omega)];simp only [yH];rw [oW (i:=0) (x:=0) rfl e0,dh];simp only [zW];rw [Zaa hne2,zA,zA,zo.fH,zB,zo.v10,zC,zG];have:=main (.bool false);rw [Zaa d] at this;rw [<- hcut] at this;exact this
theorem zxi {a b:Int} {K:AV->OP}:sMin true (I a) [I b] K=K (I (max a b)):=by
 have e:sMin true (I a) [I b] K=K (.int .i64 (bif ilt a b then b else a)):=rfl;rw [e,wV]
 congr 2
 by_cases c:a<b
 .simp only [c,decide_true,cond_true];omega
 .simp only [c,decide_false,cond_false];omega
theorem zru {z:Int} (h : -9223372036854775808<=z/\z<=9223372036854775807):Z9 3 z:=by unfold Z9;omega
theorem zkv {n:Nat} (h:n<=9223372036854775807):(uw n 1).length<=20:=by
 unfold uw;rw [Zal,Zcv];have:=zhf (n:=n) (w:=1) (by omega) (by omega);omega
theorem zxj {a b:Int} (ha : -9223372036854775808<=a/\a<=9223372036854775807) (hb : -9223372036854775808<=b/\b<=9223372036854775807) (hb0:b≠0):Pure Tryz.prog B 128 [I a,I b] (· = .str (uz (Rat.divInt a b))):=by
 refine zX λh nx K H0 hK=>zN zQ yD 100 λhf => ?_;rw [zu.go,zu.t32,zA,zu.zy];have big:∀ x5:AV,x5=.bool true->zu.t4.run (CS Tryz.prog B) 100 (fnO zu.res K) (zu.t30.run (CS Tryz.prog B) 100 (fnO zu.res K) (zi zu.res K)) (zu.fr (I a) (I b) (.str []) .u .u x5 .u .u .u) h nx=.ok True:=by
  rintro _ rfl;rw [zu.t4,zB,zu.v5,zD,zA,zu.je];refine pT ha _ _ _ _ ?_;rintro _ rfl _;refine pT hb _ _ _ _ ?_;rintro _ rfl _;refine vX (k:=3) (by omega) (zru ha) (zru hb) hb0 _ _ _ _ ?_;rintro _ rfl _;simp only [zI,zO];rw [zu.ret];exact hK _ _ _ _ _ H0 (zT rfl) rfl
 have tail:∀ {a b:Int} {x5 x6:AV},(-4000000000000000000<=a/\a<=4000000000000000000)->(0<b/\b<=4000000000000000000)->(∀ v h' nx' L v',Hp h h' nx' L->tQ h h' v v'->v'=.str (uz (Rat.divInt a b))->K v h' nx'=.ok True) ->
   zu.t29.run (CS Tryz.prog B) 100 (fnO zu.res K) (zi zu.res K) (zu.fr (I a) (I b) (.str []) .u .u x5 x6 .u .u) h nx=.ok True:=by
  intro a b x5 x6 ha hb hK;have hg:0<Nat.gcd a.natAbs b.natAbs:=Nat.gcd_pos_of_pos_right _ (by omega);have hgl:Nat.gcd a.natAbs b.natAbs<=b.natAbs:=Nat.le_of_dvd (by omega) (Nat.gcd_dvd_right ..);obtain ⟨d1,d2⟩:=kT (n:=a) (d:=b) hb.1;have eg:(Int.gcd a b:Int)=((Nat.gcd a.natAbs b.natAbs:Nat):Int):=rfl;have e1:a.tdiv ((Nat.gcd a.natAbs b.natAbs:Nat):Int)=(Rat.divInt a b).num:=by
   rw [d1,<- eg];exact Int.tdiv_eq_ediv_of_dvd (Zed ..)
  have e2:b.tdiv ((Nat.gcd a.natAbs b.natAbs:Nat):Int)=((Rat.divInt a b).den:Int):=by
   rw [d2,<- eg];exact Int.tdiv_eq_ediv_of_dvd (Zen ..)
  have hn:(Rat.divInt a b).num.natAbs<=a.natAbs:=by
   rw [<- e1,Int.natAbs_tdiv,Zbp];exact Zbz _ _
  have hd:(Rat.divInt a b).den<=b.natAbs:=by
   have:=congrArg Int.natAbs e2;rw [Int.natAbs_tdiv,Zbp,Zbp] at this;rw [<- this];exact Zbz _ _
  rw [zu.t29,zA,zu.fT,kz (by omega),zxi,show max a (0-a)=(a.natAbs:Int) by omega];have hbb:I b=I (b.natAbs:Int):=by congr 1;omega
  have hgc:∀ KK:Kw Prop,(∀ h2 n3,h2=h->n3=nx->KK (I ((Nat.gcd a.natAbs b.natAbs:Nat):Int)) h2 n3=.ok True)->(CS Tryz.prog B).fn 210 (.of 210) [I (a.natAbs:Int),I b] h nx KK=.ok True:=λKK q=>by
   rw [hbb];refine zzj (by omega) (by omega) _ _ _ _ ?_;rintro _ rfl _;exact q _ _ rfl rfl
  refine hgc _ ?_;rintro h2 n3 rfl rfl;rw [zA,zu.di,vC (by omega) (by omega),vC (by omega) (by omega),e1,e2,zA,zu.rP,zA,zA,zu.fU,ji,zB,zu.v7]
  generalize Rat.divInt a b=q at *
  have l1:=zkv (n:=q.num.natAbs) (by omega);have l2:=zkv (n:=q.den) (by omega);have fin:∀ (sg:List UInt8) (x7:AV),sg=(if q.num<0 then [45] else [])->zu.t25.run (CS Tryz.prog B) 100 (fnO zu.res K) (zi zu.res K) (zu.fr (I q.num) (I (q.den:Int)) (.str []) (I ((Nat.gcd a.natAbs b.natAbs:Nat):Int)) (.str sg) x5 x6 x7 .u) h2 n3=.ok True:=by
   intro sg x7 hsg;have ls:sg.length<=1:=by rw [hsg];split <;> simp
   rw [zu.t25,zA,zu.rX,kz (by omega),zxi,show max q.num (0-q.num)=(q.num.natAbs:Int) by omega];refine xV (w:=1) (by omega) (by omega) _ _ _ _ ?_;rintro _ rfl _;rw [tCat (by omega),zA,zA,zu.zn0,xq,zB,zu.v8];have hint:sg++uw q.num.natAbs 1=cZ q.num:=by rw [hsg];rfl
   by_cases c:q.den=1
   .rw [Zaa (by omega),zC,zG,zA,zu.aX];simp only [zI,zO];rw [zu.ret];exact hK _ _ _ _ _ H0 (zT rfl) (by rw [uz,if_pos c,Zbj,hint])
   .have hdp:=q.den_pos;rw [Zab (by omega),zD,zu.sV,tCat (by simp;omega)];refine xV (w:=1) (by omega) (by omega) _ _ _ _ ?_;rintro _ rfl _;rw [tCat (by simp;omega),zA,zu.aX];simp only [zI,zO];rw [zu.ret];refine hK _ _ _ _ _ H0 (zT rfl) ?_;rw [uz,if_neg c,<- hint,cZ,if_neg (show ¬ ((q.den:Int)<0) by omega),Zbq,Zbp];simp
  by_cases d:q.num<0
  .rw [Zab d,zD,zu.sD];exact fin _ _ (by rw [if_pos d])
  .rw [Zaa d,zC,zG];exact fin _ _ (by rw [if_neg d])
 have small:(-4000000000000000000<=a/\a<=4000000000000000000)->(-4000000000000000000<=b/\b<=4000000000000000000)->∀ x5:AV,x5=.bool false->zu.t4.run (CS Tryz.prog B) 100 (fnO zu.res K) (zu.t30.run (CS Tryz.prog B) 100 (fnO zu.res K) (zi zu.res K)) (zu.fr (I a) (I b) (.str []) .u .u x5 .u .u .u) h nx=.ok True:=by
  rintro ha hb _ rfl;rw [zu.t4,zB,zu.v5,zC,zG,zu.t30,zA,zA,zu.qi,ji,zB,zu.v6];by_cases c:b<0
  .rw [Zab c,zD,zu.fC,kz (by omega),kz (by omega),Int.zero_sub,Int.zero_sub];exact tail (by omega) (by omega) (by rw [Zgf];exact hK)
  .rw [Zaa c,zC,zG];exact tail ha (by omega) hK
 rw [zA,zA,zu.zx,zu.si,zu.sj,ji];by_cases c1:a < -4000000000000000000
 .rw [Zab c1];simp only [jC,uF,zW];rw [zu.sQ,zu.fZ];simp only [jC,uF,zW];exact big _ rfl
 rw [Zaa c1];simp only [yI];rw [xq];simp only [zY];by_cases c2:4000000000000000000<a
 .rw [Zab c2];simp only [jC,uF,zW];rw [zu.sQ,zu.fZ];simp only [jC,uF,zW];exact big _ rfl
 rw [Zaa c2];simp only [yI];rw [zu.sQ,zu.fZ];simp only [yI];rw [ji];simp only [zY];by_cases c3:b < -4000000000000000000
 .rw [Zab c3];simp only [jC,uF,zW];exact big _ rfl
 rw [Zaa c3];simp only [yI];rw [xq];simp only [zY];by_cases c4:4000000000000000000<b
 .rw [Zab c4];exact big _ rfl
 rw [Zaa c4];exact small (by omega) (by omega) _ rfl
theorem uGWt (op:KW3->OP) (h:T Blk) (nx:Pa) (k:KW3):sGW (.bool true) true op h nx k=op k:=nr rfl
theorem uGWf (op:KW3->OP) (h:T Blk) (nx:Pa) (k:KW3):sGW (.bool false) true op h nx k=k .u h nx:=nr rfl
theorem mA (q:Rat):Rat.divInt q.num (q.den:Int)=q:=Rat.num_divInt_den q
theorem gH (q:Rat):(q.den:Int)≠0:=by have:=q.den_nz;omega
theorem cD (a b:Rat):Rat.divInt (a.num*b.num) ((a.den:Int)*(b.den:Int))=a*b:=by
 rw [<- Rat.divInt_mul_divInt,mA,mA]
theorem cE (a b:Rat):Rat.divInt (a.num*(b.den:Int)+b.num*(a.den:Int)) ((a.den:Int)*(b.den:Int))=a+b:=by
 rw [<- Rat.divInt_add_divInt _ _ (gH a) (gH b),mA,mA]
def Q9 (k:Nat) (q:Rat):Prop:=Z9 k q.num/\Z9 k (q.den:Int)
theorem Q9.txt {k:Nat} {q:Rat} (h:Q9 k q):(uz q).length<=18*k+5:=by
 have l1:=xI h.1;have l2:=xI h.2;unfold uz;rw [Zah];split <;> simp <;> omega
theorem ze1 {p q:Rat} {k:Nat} (hk:k<=10000) (hp:Q9 k p) (hq:Q9 k q):Pure Tryz.prog B 40 [.str (uz p),.str (uz q)] (· = .str (uz (p+q))):=by
 refine zX λh nx K H0 hK=>zN zQ yD 100 λhf => ?_;have tp:=hp.txt;have tq:=hq.txt;rw [F40.go,F40.t17,zA,F40.zy,zA,F40.zx];refine mC (by omega) _ _ _ _ ?_;rintro _ ⟨a,b,o1,rfl,h1⟩ _;rw [jE,jD,j7,zA,F40.je];refine mC (by omega) _ _ _ _ ?_;rintro _ ⟨c,d,o2,rfl,h2⟩ _;rw [jE,jD,j7,zA,zA,F40.pq];have slow:∀ {x13:AV},F40.t13.run (CS Tryz.prog B) 100 (fnO F40.res K) (zi F40.res K) (F40.fr (.str (uz p)) (.str (uz q)) (.str []) (I a) (I b) (.bool o1) (I c) (I d) (.bool o2) .u .u .u .u x13) h nx=.ok True:=by
  intro x13;rw [F40.t13,zA,F40.fH];refine vP (by omega) hp.1 hp.2 _ _ _ _ ?_;rintro _ rfl _;rw [jE,jD];refine H0.alloc λp1 h1 nx1 H1 => ?_;refine H1.alloc λp2 h2 nx2 H2 => ?_;refine H2.jd (l2:=[.bool (decide (p.num<0)),jm (dg 1000000000 p.num.natAbs)]) (k:=1) rfl rfl rfl λh3 H3 => ?_;refine H3.jd (l2:=[.bool (decide ((p.den:Int)<0)),jm (dg 1000000000 (p.den:Int).natAbs)]) (k:=0) rfl rfl rfl λh4 H4 => ?_;rw [zA,F40.fK];refine vP (by omega) hq.1 hq.2 _ _ _ _ ?_;rintro _ rfl _;rw [jE,jD];refine H4.alloc λq1 h5 nx5 H5 => ?_;refine H5.alloc λq2 h6 nx6 H6 => ?_;refine H6.jd (l2:=[.bool (decide (q.num<0)),jm (dg 1000000000 q.num.natAbs)]) (k:=1) rfl rfl rfl λh7 H7 => ?_;refine H7.jd (l2:=[.bool (decide ((q.den:Int)<0)),jm (dg 1000000000 (q.den:Int).natAbs)]) (k:=0) rfl rfl rfl λh8 H8 => ?_;have L3:∀ op:AV->OP,zJ 2 (.ptr p1 0) h8 op=op (sS p.num):=λop=>H8.zw (k:=3) rfl rfl;have L2:∀ op:AV->OP,zJ 2 (.ptr p2 0) h8 op=op (sS (p.den:Int)):=λop=>H8.zw (k:=2) rfl rfl;have L1:∀ op:AV->OP,zJ 2 (.ptr q1 0) h8 op=op (sS q.num):=λop=>H8.zw (k:=1) rfl rfl;have L0:∀ op:AV->OP,zJ 2 (.ptr q2 0) h8 op=op (sS (q.den:Int)):=λop=>H8.zw (k:=0) rfl rfl;have z1:=hp.1.mul hq.2;have z2:=hq.1.mul hp.2;have z3:=hp.2.mul hq.2;rw [zA,F40.fT,L3,L0,L1,L2,L2,L0];refine vH (by omega) (by omega) hp.1 hq.2 _ _ _ _ ?_;rintro _ rfl _;rw [L0,zF,L2,zF,L2,zF,L1,zF];refine vH (by omega) (by omega) hq.1 hp.2 _ _ _ _ ?_;rintro _ rfl _;rw [L0,zF,L2,zF];refine zuy (by omega) z1 z2 _ _ _ _ ?_;rintro _ rfl _;rw [L0,zF,L2,zF];refine vH (by omega) (by omega) hp.2 hq.2 _ _ _ _ ?_;rintro _ rfl _;refine vX (k:=k+k+1) (by omega) (z1.add z2) (z3.mono (by omega)) (Zel (gH p) (gH q)) _ _ _ _ ?_;rintro _ rfl _;rw [cE];simp only [zI,zO];rw [F40.ret];exact hK _ _ _ _ _ H8 (zT rfl) rfl
 have stop:F40.t6.run (CS Tryz.prog B) 100 (fnO F40.res K) (F40.t13.run (CS Tryz.prog B) 100 (fnO F40.res K) (zi F40.res K)) (F40.fr (.str (uz p)) (.str (uz q)) (.str []) (I a) (I b) (.bool o1) (I c) (I d) (.bool o2) .u .u .u .u (.bool (o1&&o2))) h nx=.ok True:=by
  rw [F40.t6,zB,F40.v13];cases ho:(o1&&o2) with
  | false =>
   rw [zC,zG];exact slow
  | true =>
   rw [Zai] at ho;obtain ⟨rfl,rfl,b1,b2⟩:=h1 ho.1;obtain ⟨rfl,rfl,b3,b4⟩:=h2 ho.2;have m1:(p.num*(q.den:Int)).natAbs<10 ^ 9*10 ^ 9:=by rw [Zcg];exact Zdq b1 (by omega)
   have m2:(q.num*(p.den:Int)).natAbs<10 ^ 9*10 ^ 9:=by rw [Zcg];exact Zdq b3 (by omega)
   have m3:((p.den:Int)*(q.den:Int)).natAbs<10 ^ 9*10 ^ 9:=by rw [Zcg];exact Zdq (by omega) (by omega)
   rw [zD,zA,F40.fJ,fO (by omega),fO (by omega),jc (by omega),fO (by omega)];refine zxj (by omega) (by omega) (Zel (gH p) (gH q)) _ _ _ _ ?_;rintro _ rfl _;rw [cE];simp only [zI,zO];rw [F40.ret];exact hK _ _ _ _ _ H0 (zT rfl) rfl
 cases o1 with
 | true =>
  simp only [yH,zW];exact stop
 | false =>
  simp only [jA,zY];exact stop
theorem zrv {p q:Rat} {k:Nat} (hk:k<=10000) (hp:Q9 k p) (hq:Q9 k q):Pure Tryz.prog B 41 [.str (uz p),.str (uz q)] (· = .str (uz (p*q))):=by
 refine zX λh nx K H0 hK=>zN zQ yD 100 λhf => ?_;have tp:=hp.txt;have tq:=hq.txt;rw [F41.go,F41.t17,zA,F41.zy,zA,F41.zx];refine mC (by omega) _ _ _ _ ?_;rintro _ ⟨a,b,o1,rfl,h1⟩ _;rw [jE,jD,j7,zA,F41.je];refine mC (by omega) _ _ _ _ ?_;rintro _ ⟨c,d,o2,rfl,h2⟩ _;rw [jE,jD,j7,zA,zA,F41.pq];have slow:∀ {x13:AV},F41.t13.run (CS Tryz.prog B) 100 (fnO F41.res K) (zi F41.res K) (F41.fr (.str (uz p)) (.str (uz q)) (.str []) (I a) (I b) (.bool o1) (I c) (I d) (.bool o2) .u .u .u .u x13) h nx=.ok True:=by
  intro x13;rw [F41.t13,zA,F41.fH];refine vP (by omega) hp.1 hp.2 _ _ _ _ ?_;rintro _ rfl _;rw [jE,jD];refine H0.alloc λp1 h1 nx1 H1 => ?_;refine H1.alloc λp2 h2 nx2 H2 => ?_;refine H2.jd (l2:=[.bool (decide (p.num<0)),jm (dg 1000000000 p.num.natAbs)]) (k:=1) rfl rfl rfl λh3 H3 => ?_;refine H3.jd (l2:=[.bool (decide ((p.den:Int)<0)),jm (dg 1000000000 (p.den:Int).natAbs)]) (k:=0) rfl rfl rfl λh4 H4 => ?_;rw [zA,F41.fK];refine vP (by omega) hq.1 hq.2 _ _ _ _ ?_;rintro _ rfl _;rw [jE,jD];refine H4.alloc λq1 h5 nx5 H5 => ?_;refine H5.alloc λq2 h6 nx6 H6 => ?_;refine H6.jd (l2:=[.bool (decide (q.num<0)),jm (dg 1000000000 q.num.natAbs)]) (k:=1) rfl rfl rfl λh7 H7 => ?_;refine H7.jd (l2:=[.bool (decide ((q.den:Int)<0)),jm (dg 1000000000 (q.den:Int).natAbs)]) (k:=0) rfl rfl rfl λh8 H8 => ?_;have L3:∀ op:AV->OP,zJ 2 (.ptr p1 0) h8 op=op (sS p.num):=λop=>H8.zw (k:=3) rfl rfl;have L2:∀ op:AV->OP,zJ 2 (.ptr p2 0) h8 op=op (sS (p.den:Int)):=λop=>H8.zw (k:=2) rfl rfl;have L1:∀ op:AV->OP,zJ 2 (.ptr q1 0) h8 op=op (sS q.num):=λop=>H8.zw (k:=1) rfl rfl;have L0:∀ op:AV->OP,zJ 2 (.ptr q2 0) h8 op=op (sS (q.den:Int)):=λop=>H8.zw (k:=0) rfl rfl;have z1:=hp.1.mul hq.1;have z3:=hp.2.mul hq.2;rw [zA,F41.fT,L3,L1,L2,L0];refine vH (by omega) (by omega) hp.1 hq.1 _ _ _ _ ?_;rintro _ rfl _;rw [L0,zF,L2,zF];refine vH (by omega) (by omega) hp.2 hq.2 _ _ _ _ ?_;rintro _ rfl _;refine vX (k:=k+k) (by omega) z1 z3 (Zel (gH p) (gH q)) _ _ _ _ ?_;rintro _ rfl _;rw [cD];simp only [zI,zO];rw [F41.ret];exact hK _ _ _ _ _ H8 (zT rfl) rfl
 have stop:F41.t6.run (CS Tryz.prog B) 100 (fnO F41.res K) (F41.t13.run (CS Tryz.prog B) 100 (fnO F41.res K) (zi F41.res K)) (F41.fr (.str (uz p)) (.str (uz q)) (.str []) (I a) (I b) (.bool o1) (I c) (I d) (.bool o2) .u .u .u .u (.bool (o1&&o2))) h nx=.ok True:=by
  rw [F41.t6,zB,F41.v13];cases ho:(o1&&o2) with
  | false =>
   rw [zC,zG];exact slow
  | true =>
   rw [Zai] at ho;obtain ⟨rfl,rfl,b1,b2⟩:=h1 ho.1;obtain ⟨rfl,rfl,b3,b4⟩:=h2 ho.2;have m1:(p.num*q.num).natAbs<10 ^ 9*10 ^ 9:=by rw [Zcg];exact Zdq b1 b3
   have m3:((p.den:Int)*(q.den:Int)).natAbs<10 ^ 9*10 ^ 9:=by rw [Zcg];exact Zdq (by omega) (by omega)
   rw [zD,zA,F41.fJ,fO (by omega),fO (by omega)];refine zxj (by omega) (by omega) (Zel (gH p) (gH q)) _ _ _ _ ?_;rintro _ rfl _;rw [cD];simp only [zI,zO];rw [F41.ret];exact hK _ _ _ _ _ H0 (zT rfl) rfl
 cases o1 with
 | true =>
  simp only [yH,zW];exact stop
 | false =>
  simp only [jA,zY];exact stop
theorem ze2 {n:Nat} (h:uw n 1=[48]):n=0:=by
 have hlt:=cM (n:=n) (k:=1) (by rw [h];simp);rcases Zbx n with e | e
 .exact e
 .exfalso
  have hd:dg 10 n=[n]:=by
   rw [uV (by decide) (by omega),show n / 10=0 by omega,j3,show n%10=n by omega]
  unfold uw at h;rw [xE (by omega),hd] at h;have:∀ n<10,0<n->dch n≠48:=by decide +kernel
  exact this n (by omega) e (by simpa using h)
theorem zdk {q:Rat}:uz q=[48]↔q=0:=by
 constructor
 .intro h;have hd1:=wD q.num.natAbs;have hlen:=congrArg List.length h;rw [dN] at h hlen;by_cases d:q.num<0
  .rw [if_pos d] at h;have:=congrArg List.head? h;simp at this
  .rw [if_neg d,Zbq] at h hlen;unfold r9 at h hlen;by_cases c:q.den=1
   .rw [if_pos c,Zbj] at h;have:=ze2 h;exact Rat.num_eq_zero.1 (by omega)
   .rw [if_neg c] at hlen;simp at hlen;omega
 .rintro rfl;rw [uz,if_pos (show (0:Rat).den=1 from rfl),Zbj];show cZ 0=[48];rw [cZ,if_neg (by decide)];exact xK
theorem zhj {a b:List UInt8} {K:AV->OP}:za .eql .str (.str a) (.str b) K=K (.bool (decide (a=b))):=by
 have e:za .eql .str (.str a) (.str b) K=K (.bool (gM a b)):=nr rfl;rw [e];by_cases c:a=b
 .rw [Zab c,fq.2 c]
 .rw [Zaa c];cases q:gM a b with
  | true=>exact absurd (fq.1 q) c
  | false=>rfl
theorem zca {q:Rat} (d:q.num<0):uz q=45::r9 q:=by rw [dN,if_pos d];rfl
theorem mB {q:Rat} (d:¬ q.num<0):uz q=r9 q/\∃ c,(uz q)[0]? = some c/\c≠45:=by
 have hd1:=wD q.num.natAbs;have hcut:uz q=r9 q:=by rw [dN,if_neg d];rfl
 have hc0:=List.getElem?_eq_getElem (l:=uw q.num.natAbs 1) (i:=0) (by omega);exact ⟨hcut,_,by rw [hcut,r9,List.getElem?_append_left (by omega),hc0],(xL (Zad hc0)).2⟩
theorem zmj (q:Rat):1<=(uz q).length:=by
 have hd1:=wD q.num.natAbs;rw [dN,r9,Zah,Zah];omega
theorem zrw (q:Rat):r9 (-q)=r9 q:=by unfold r9;rw [Zfp,Zgd,Zeb]
theorem Q9.neg {k:Nat} {q:Rat} (h:Q9 k q):Q9 k (-q):=by
 refine ⟨?_,?_⟩
 .have:=h.1;unfold Z9 at *;rwa [Zfp,Zeb]
 .rw [Zgd];exact h.2
theorem zmk {q:Rat}:Pure Tryz.prog B 39 [.str (uz q)] (· = .bool (decide (q=0))):=by
 refine zX λh nx K H0 hK=>zN zQ yD 100 λhf => ?_;rw [F39.go,F39.t3,zA,F39.zy,zA,F39.zx,zhj];simp only [zI,zO];rw [F39.ret];exact hK _ _ _ _ _ H0 (zT rfl) (by congr 1;exact decide_eq_decide.2 zdk)
abbrev T9 (q:Rat):AV:=.str (uz q)
def l10 (n:Nat):Nat:=n*78913 / 262144
theorem iShr {m n:Nat} {K:AV->OP} (hn:n<=64):za .shr .int (I (m:Int)) (.int .u64 (n:Int)) K=K (I ((m / 2 ^ n:Nat):Int)):=by
 have e:za .shr .int (I (m:Int)) (.int .u64 (n:Int)) K=(bif ilt (n:Int) 0 then Out.no 5 else wm ((m:Int).fdiv (2 ^ (min (n:Int).toNat IntKind.i64.bits))) λz=>K (.int .i64 z)):=rfl;have h0:ilt (n:Int) 0=false:=rfl;rw [e,h0,cond_false,jS];have hb:IntKind.i64.bits=64:=rfl;rw [hb,Zfm,Zbu hn,Int.fdiv_eq_ediv_of_nonneg _ (Int.pow_nonneg (by omega))]
 congr 2
theorem zzl {n:Nat} (hn:n<=64):Pure Tryz.prog B 329 [I (n:Int)] (· = I (l10 n:Int)):=by
 intro p h nx K hK;refine zN zQ yD 100 λhf => ?_;rw [rD.go,rD.t3,zA,rD.zy,zA,rD.zx,fO (by omega),show (n:Int)*78913=((n*78913:Nat):Int) by omega,show (AV.int .u64 18)=.int .u64 ((18:Nat):Int) from rfl,iShr (by omega)];simp only [zI,zO];rw [rD.ret];exact hK _ rfl hf
theorem zu3 {b:Bool}:Pure Tryz.prog B 330 [.bool b] (· = I (if b then 1 else 0)):=by
 intro p h nx K hK;refine zN zQ yD 100 λhf => ?_;rw [mg.go,mg.t9,zA,mg.zy,zA,zA,mg.zx,zB,mg.v2];cases b with
 | true =>
  rw [zD,zA,mg.je];simp only [zI,zO];rw [mg.ret];exact hK _ rfl hf
 | false =>
  rw [zC,zG,zA,mg.qi];simp only [zI,zO];rw [mg.ret];exact hK _ rfl hf
theorem zzm:∀ n<65,l10 n<20/\2 ^ n<=10 ^ (l10 n+1)/\(l10 n=0\/2*10 ^ (l10 n-1)<=2 ^ n):=by decide
theorem zu4:∀ n<20,(layG 2)[n]? = some (10 ^ n):=by decide
def IsNd (u d:Nat):Prop:=1<=d/\d<=20/\u<10 ^ d/\10 ^ (d-1)<=u
theorem zml {u:Nat} (h0:0<u) (hu:u<18446744073709551616):Pure Tryz.prog B 316 [U u] (λv=>∃ d:Nat,v=I (d:Int)/\IsNd u d):=by
 intro p h nx K hK;refine zN zQ yD 100 λhf => ?_;rw [fI.go,fI.t5,zA,fI.zy,zA,fI.zx];refine zrl hu _ _ _ _ ?_;rintro _ ⟨n,rfl,hn64,hn1,hn2⟩ _;refine zzl hn64 _ _ _ _ ?_;rintro _ rfl _;obtain ⟨a1,a2,a3⟩:=zzm n (by omega);obtain ⟨l,hl⟩:∃ l,l=l10 n:=⟨_,rfl⟩;rw [<- hl] at a1 a2 a3 ⊢;have hn2:=hn2 h0;have e1:∀ K:AV->OP,zak 1 20 (.fp (layL 2)) (I (l:Int)) K=K (.fp ((layL 2).drop (l*1))):=λK=>by
  show (bif Nat.ble (Nat.succ l) 20 then K (.fp ((layL 2).drop (l*1))) else .no 14)=_;rw [Zae (by omega)];rfl
 have e2:∀ K:AV->OP,zE (.fp ((layL 2).drop (l*1))) h K=K (U (10 ^ l)):=λK=>by
  have hg:(layL 2)[l]? = some (U (10 ^ l)):=by
   rw [layL,List.getElem?_map,zu4 l a1];rfl
  have hd:(layL 2).drop (l*1)=U (10 ^ l)::(layL 2).drop (l+1):=by
   rw [Zbo,List.drop_eq_getElem?_toList_append,hg];rfl
  rw [hd];rfl
 rw [zA,fI.je,e1,e2,uGeq];refine zu3 _ _ _ _ ?_;rintro _ rfl _;rw [jc (by split <;> omega)];simp only [zI,zO];rw [fI.ret];by_cases c:10 ^ l<=u
 .rw [Zab c,if_pos rfl,show (l:Int)+1=((l+1:Nat):Int) by omega];exact hK _ ⟨_,rfl,by omega,by omega,by omega,by rw [Nat.add_sub_cancel];exact c⟩ hf
 .rw [Zaa c,if_neg (by decide),show (l:Int)+0=((l:Nat):Int) by omega];have hl1:l≠0:=λe=>by rw [e] at c;omega
  exact hK _ ⟨_,rfl,by omega,by omega,by omega,by
   rcases a3 with q | q
   .exact absurd q hl1
   .omega⟩ hf
def rV (z:Int):Prop := -9223372036854775807<=z/\z<=9223372036854775807
def bf (s w:AV) (z:Int):Prop:=s=I z/\w=.ze/\rV z
def xh (v:AV) (z:Int):Prop:=∃ s w,v=.agg [s,w]/\bf s w z
theorem bf.fix {s w:AV} {z:Int} (h:bf s w z):∀ v∈[s,w],rU v=true:=by
 intro v hv;simp only [Zap,List.not_mem_nil,or_false] at hv;obtain ⟨rfl,rfl,_⟩:=h;rcases hv with rfl | rfl <;> rfl
theorem xh.frz {v:AV} {z:Int} (h:xh v z) {N:Pa->Prop} {O:AV->Prop} {hh:T Blk}:Frz True N O hh v v:=by
 obtain ⟨s,w,rfl,h⟩:=h;exact aP h.fix
theorem yU {z:Int} (h:rV z):xh (.agg [I z,.ze]) z:=⟨_,_,rfl,rfl,rfl,h⟩
theorem kD {K:AV->OP}:za .eql (.nil .sl) .ze .ze K=K (.bool true):=nr rfl
theorem zrx {K:AV->OP}:za .neq (.nil .sl) .ze .ze K=K (.bool false):=nr rfl
theorem uJ {z:Int} {K:AV->OP}:uT [(I 0),.ze] [(0,1,I z)] K=K (.agg [I z,.ze]):=nr rfl
theorem zry {z:Int} (h:rV z):Pure Tryz.prog B 187 [I z] (λv=>xh v z):=by
 refine zX λhh nx K H0 hK=>zN zQ yD 100 λhf => ?_;rw [ng.go,ng.t3,zA,ng.zy];refine H0.alloc λp h1 nx1 H1 => ?_;rw [zA,ng.zx,uJ];refine H1.jd (l2:=[I z,.ze]) (k:=0) rfl rfl rfl λh4 H4 => ?_;simp only [zI,zO];rw [ng.ret,H4.zw (k:=0) (n:=2) rfl rfl];exact hK _ _ _ _ _ H4 (yU h).frz (yU h)
def qD (z:Int):Int:=if z<0 then -1 else if 0<z then 1 else 0
theorem zu5 {z:Int} {K:AV->OP}:sMin false (I 1) [I z] K=K (I (if z<1 then z else 1)):=by
 have e:sMin false (I 1) [I z] K=K (I (bif ilt z 1 then z else 1)):=nr rfl;rw [e,wV];by_cases c:z<1
 .rw [if_pos c,Zab c];rfl
 .rw [if_neg c,Zaa c];rfl
theorem zu6 {z:Int} {K:AV->OP}:sMin true (I (-1)) [I z] K=K (I (if -1<z then z else -1)):=by
 have e:sMin true (I (-1)) [I z] K=K (I (bif ilt (-1) z then z else -1)):=nr rfl;rw [e,wV];by_cases c : -1<z
 .rw [if_pos c,Zab c];rfl
 .rw [if_neg c,Zaa c];rfl
theorem dH {v:AV} {z:Int} (hv:xh v z):Pure Tryz.prog B 194 [v] (· = I (qD z)):=by
 obtain ⟨s,w,rfl,rfl,rfl,hv⟩:=hv;refine zX λh nx K H0 hK=>zN zQ yD 100 λhf => ?_;rw [ni.go,ni.t3,zA,ni.zy];refine H0.box (l:=[I z,.ze]) rfl λpa h1 nx1 H1 => ?_;have hn:(if -1<(if z<1 then z else 1) then (if z<1 then z else 1) else -1)=qD z:=by
  unfold qD
  (repeat' split) <;> omega
 rw [zA,ni.zx,sFx,H1.load (k:=0) (i:=0+0) rfl rfl,zu5,zu6,hn];simp only [zI,zO];rw [ni.ret];exact hK _ _ _ _ _ H1 (zT rfl) rfl
theorem xF {v:AV} {z:Int} (hv:xh v z):Pure Tryz.prog B 193 [v] (λv=>xh v (-z)):=by
 obtain ⟨s,w,rfl,rfl,rfl,hv⟩:=hv;unfold rV at hv;refine zX λh nx K H0 hK=>zN zQ yD 100 λhf => ?_;rw [fw.go,fw.t11,zA,fw.zy];refine H0.box (l:=[I z,.ze]) rfl λpa h1 nx1 H1 => ?_;refine H1.alloc λp h2 nx2 H2 => ?_;rw [zA,zA,fw.zx,sFx,H2.load (k:=1) (i:=0+1) (v:=.ze) rfl rfl,kD];simp only [yH];rw [sFx,H2.load (k:=1) (i:=0+0) rfl rfl,fD,zW,zB,fw.v5,Zaa (by omega),Zam,zD,zA,fw.je,sFx,H2.load (k:=1) (i:=0+0) rfl rfl,uNeg (by omega),uJ];refine H2.jd (l2:=[I (-z),.ze]) (k:=0) rfl rfl rfl λh4 H4 => ?_;simp only [zI,zO];rw [fw.ret,H4.zw (k:=0) (n:=2) rfl rfl];exact hK _ _ _ _ _ H4 (yU (by unfold rV;omega)).frz (yU (by unfold rV;omega))
theorem zjq {a b:Int} {K:AV->OP}:za .add .int (I a) (I b) K=K (I (IntKind.wrap .i64 (a+b))):=zwh
theorem zhk {a b:Int} (ha : -9223372036854775808<=a/\a<=9223372036854775807) (hb : -9223372036854775808<=b/\b<=9223372036854775807) :
  (decide (a<IntKind.wrap .i64 (a+b))==decide (0<b))=true↔(-9223372036854775808<=a+b/\a+b<=9223372036854775807):=by
 have e:∀ z:Int,IntKind.wrap .i64 z=(z+9223372036854775808)%18446744073709551616-9223372036854775808:=by
  intro z;rw [IntKind.wrap_i64] <;> omega
 rw [e];by_cases c:0<b
 .rw [Zab c];by_cases d:a+b<=9223372036854775807
  .rw [Zab (by omega)];simp;omega
  .rw [Zaa (by omega)];simp;omega
 .rw [Zaa c];by_cases d : -9223372036854775808<=a+b
  .rw [Zaa (by omega)];simp;omega
  .rw [Zab (by omega)];simp;omega
theorem zkw {va vb:AV} {a b:Int} (hva:xh va a) (hvb:xh vb b) (hs:rV (a+b)):Pure Tryz.prog B 197 [va,vb] (λv=>xh v (a+b)):=by
 obtain ⟨s,w,rfl,rfl,rfl,hva⟩:=hva;obtain ⟨s',w',rfl,rfl,rfl,hvb⟩:=hvb;unfold rV at hva hvb;have hs':=hs;unfold rV at hs';refine zX λh nx K H0 hK=>zN zQ yD 100 λhf => ?_;rw [wz.go,wz.t30,zA,wz.zy];refine H0.box (l:=[I a,.ze]) rfl λpa h1 nx1 H1 => ?_;refine H1.box (l:=[I b,.ze]) rfl λpb h2 nx2 H2 => ?_;refine H2.alloc λp h3 nx3 H3 => ?_;rw [zA,zA,wz.zx,sFx,H3.load (k:=2) (i:=0+1) (v:=.ze) rfl rfl,kD];simp only [yH];rw [sFx,H3.load (k:=1) (i:=0+1) (v:=.ze) rfl rfl,kD,zW,zB,wz.v10,zD,zA,wz.je,sFx,H3.load (k:=2) (i:=0+0) rfl rfl,sFx,H3.load (k:=1) (i:=0+0) rfl rfl,zjq,zA,wz.pq,sFx,H3.load (k:=2) (i:=0+0) rfl rfl,xq,sFx,H3.load (k:=1) (i:=0+0) rfl rfl,xq,bEql,zB,wz.v11];have hw : -9223372036854775808<=a+b/\a+b<=9223372036854775807:=by omega
 rw [(zhk (a:=a) (b:=b) (by omega) (by omega)).2 hw,zD,zA,wz.fJ,qM hw,uJ];simp only [zI,zO];refine H3.jd (l2:=[I (a+b),.ze]) (k:=0) rfl rfl rfl λh4 H4 => ?_;rw [wz.ret,H4.zw (k:=0) (n:=2) rfl rfl];exact hK _ _ _ _ _ H4 (yU hs).frz (yU hs)
theorem vQ {va vb:AV} {a b:Int} (hva:xh va a) (hvb:xh vb b) (hs:rV (a*b)):Pure Tryz.prog B 198 [va,vb] (λv=>xh v (a*b)):=by
 obtain ⟨s,w,rfl,rfl,rfl,hva⟩:=hva;obtain ⟨s',w',rfl,rfl,rfl,hvb⟩:=hvb;unfold rV at hva hvb;have hs':=hs;unfold rV at hs';have hab:a.natAbs*b.natAbs<=9223372036854775807:=by rw [<- Zcg];omega
 refine zX λh nx K H0 hK=>zN zQ yD 100 λhf => ?_;rw [uq.go,uq.t24,zA,uq.zy];refine H0.box (l:=[I a,.ze]) rfl λpa h1 nx1 H1 => ?_;refine H1.box (l:=[I b,.ze]) rfl λpb h2 nx2 H2 => ?_;refine H2.alloc λp h3 nx3 H3 => ?_;have hsgn:(if (decide (a<0) != decide (b<0))=true then -((a.natAbs*b.natAbs:Nat):Int) else ((a.natAbs*b.natAbs:Nat):Int))=a*b:=by
  rw [<- Zcg];by_cases c1:a<0 <;> by_cases c2:b<0
  .rw [Zab c1,Zab c2,if_neg (by decide)];have:=Zdv (show a<=0 by omega) (show b<=0 by omega);omega
  .rw [Zab c1,Zaa c2,if_pos (by decide)];have:=Int.mul_nonpos_of_nonpos_of_nonneg (show a<=0 by omega) (show 0<=b by omega);omega
  .rw [Zaa c1,Zab c2,if_pos (by decide)];have:=Int.mul_nonpos_of_nonneg_of_nonpos (show 0<=a by omega) (show b<=0 by omega);omega
  .rw [Zaa c1,Zaa c2,if_neg (by decide)];have:=Zgc (show 0<=a by omega) (show 0<=b by omega);omega
 have ret:∀ {h4 nx4 z} {x0 x1 x2 x3 x5 x6 x7 x8 x9 x10 x11 x12 x13:AV},Hp h h4 nx4 [.arr p [I 0,.ze],.arr pb [I b,.ze],.arr pa [I a,.ze]]->z=a*b->(zV 2 (.ptr p 0) (.agg [I z,.ze]) h4 nx4 λv2 h3 n4=>zi uq.res K (uq.fr x0 x1 x2 x3 (.ptr p 0) x5 x6 x7 x8 x9 x10 x11 x12 x13) h3 n4)=.ok True:=λH e=>by
  subst e;refine H.jd (l2:=[I (a*b),.ze]) (k:=0) rfl rfl rfl λh4 H4 => ?_;rw [uq.ret,H4.zw (k:=0) (n:=2) rfl rfl];exact hK _ _ _ _ _ H4 (yU hs).frz (yU hs)
 rw [zA,zA,uq.zx,sFx,H3.load (k:=2) (i:=0+1) (v:=.ze) rfl rfl,kD];simp only [yH];rw [sFx,H3.load (k:=1) (i:=0+1) (v:=.ze) rfl rfl,kD,zW,zB,uq.v11,zD,zA,uq.je,sFx,H3.load (k:=2) (i:=0+0) rfl rfl,sFx,H3.load (k:=1) (i:=0+0) rfl rfl];refine zeu (by omega) _ _ _ _ ?_;rintro _ rfl _;rw [H3.load (k:=1) (i:=0+0) rfl rfl,zF,sFx,zF];refine zeu (by omega) _ _ _ _ ?_;rintro _ rfl _;refine zzd (by omega) (by omega) _ _ _ _ ?_;rintro _ rfl _;rw [jE,jD,zA,uq.pq,qcw,Zab (Zft (by omega))];simp only [yH];rw [Zbs (by omega),show (AV.int .u64 9223372036854775807)=U 9223372036854775807 from rfl,uLeq,zW,zB,uq.v12];rw [Zab hab,zD,zA,zA,uq.fJ,sFx,H3.load (k:=2) (i:=0+0) rfl rfl,ji,sFx,H3.load (k:=1) (i:=0+0) rfl rfl,ji,bNeq,zB,uq.v13];by_cases c:(decide (a<0) != decide (b<0))=true
 .rw [if_pos c] at hsgn;rw [c,zD,zA,uq.fG,zet (by omega),uNeg (by omega),uJ];simp only [zI,zO];exact ret H3 hsgn
 .rw [if_neg c] at hsgn;rw [show (decide (a<0) != decide (b<0))=false by simpa using c,zC,zG,zA,uq.fK,zet (by omega),uJ];simp only [zI,zO];exact ret H3 hsgn
theorem zcb {a b q r:Int} (hb:0<b) (h:a=q*b+r) (h0:0<=r) (h1:r<b):a / b=q/\a%b=r:=by
 subst h;refine ⟨?_,?_⟩
 .rw [Int.add_comm,Int.add_mul_ediv_right _ _ (by omega),Int.ediv_eq_zero_of_lt h0 h1,Int.zero_add]
 .rw [Int.add_comm,Int.add_mul_emod_self_right,Int.emod_eq_of_lt h0 h1]
theorem ze3 {a b:Int} (hb:1<=b):(a.tmod b<0->a / b=a.tdiv b-1/\a%b=a.tmod b+b /\ -b<a.tmod b)/\(0<=a.tmod b->a / b=a.tdiv b/\a%b=a.tmod b):=by
 have e:=Int.mul_tdiv_add_tmod a b;have h1:=Zgg a (show 0<b by omega);have h2 : -b<a.tmod b:=by
  have:=Zgg (-a) (show 0<b by omega);rw [Int.neg_tmod] at this;omega
 rw [Int.mul_comm] at e;refine ⟨λh => ?_,λh=>zcb (by omega) e.symm h h1⟩;obtain ⟨c1,c2⟩:=zcb (a:=a) (b:=b) (q:=a.tdiv b-1) (r:=a.tmod b+b) (by omega) (by rw [Int.sub_mul];omega) (by omega) (by omega);exact ⟨c1,c2,h2⟩
theorem zmm {a b:Int} (ha : -9223372036854775807<=a) (hb:1<=b) : -9223372036854775807<=a / b:=by
 refine (Int.le_ediv_iff_mul_le (by omega)).2 ?_;have:=Int.mul_le_mul_of_nonneg_left hb (show (0:Int)<=9223372036854775807 by omega);omega
theorem bZ {va vb:AV} {a b:Int} (hva:xh va a) (hvb:xh vb b) (hb:1<=b):Pure Tryz.prog B 201 [va,vb] (λv=>∃ v1 v2,v=.tup [v1,v2]/\xh v1 (a / b)/\xh v2 (a%b)):=by
 obtain ⟨s,w,rfl,rfl,rfl,hva⟩:=hva;obtain ⟨s',w',rfl,rfl,rfl,hvb⟩:=hvb;unfold rV at hva hvb;refine zX λh nx K H0 hK=>zN zQ yD 100 λhf => ?_;rw [ug.go,ug.t29,zA,ug.zy];refine H0.box (l:=[I a,.ze]) rfl λpa h1 nx1 H1 => ?_;refine H1.box (l:=[I b,.ze]) rfl λpb h2 nx2 H2 => ?_;refine H2.alloc λp h3 nx3 H3 => ?_;refine H3.alloc λq h4 nx4 H4 => ?_;rw [zA,zA,ug.zx,ug.si,ug.sj,sFx,H4.load (k:=3) (i:=0+1) (v:=.ze) rfl rfl,kD];simp only [yH];rw [sFx,H4.load (k:=2) (i:=0+1) (v:=.ze) rfl rfl,kD,zW,ug.sQ,ug.fZ];simp only [yH];rw [sFx,H4.load (k:=3) (i:=0+0) rfl rfl,fD,zW,zB,ug.v15];rw [Zaa (by omega),Zam,zD,zA,ug.je,sFx,H4.load (k:=3) (i:=0+0) rfl rfl,sFx,H4.load (k:=2) (i:=0+0) rfl rfl,vC (by omega) hb,sFx,H4.load (k:=3) (i:=0+0) rfl rfl,sFx,H4.load (k:=2) (i:=0+0) rfl rfl,vK hb,zA,zA,ug.pq,ji,zB,ug.v16];obtain ⟨f1,f2⟩:=ze3 (a:=a) hb;have hq2 : -9223372036854775807<=a.tdiv b/\a.tdiv b<=9223372036854775807:=by
  have:=Int.natAbs_tdiv_le_natAbs a b;omega
 have hmod:=Int.emod_nonneg a (show b≠0 by omega);have hmod2:=Int.emod_lt_of_pos a (show 0<b by omega);have hrt:=Int.mul_tdiv_add_tmod a b;have hr1 : -b<a.tmod b:=by
  by_cases cr:a.tmod b<0
  .exact (f1 cr).2.2
  .omega
 have hr2:=Zgg a (show 0<b by omega);have hqm : -9223372036854775807<=a / b:=zmm (by omega) hb;by_cases cr:a.tmod b<0
 .obtain ⟨g1,g2,g3⟩:=f1 cr;rw [Zab cr,zD,ug.fJ,kz (by omega),sFx,H4.load (k:=2) (i:=0+0) rfl rfl,jc (by omega),zA,ug.fC,uJ,uJ];simp only [zI,zO];refine H4.jd (l2:=[I (a.tdiv b-1),.ze]) (k:=1) rfl rfl rfl λh6 H6 => ?_;refine H6.jd (l2:=[I (a.tmod b+b),.ze]) (k:=0) rfl rfl rfl λh7 H7 => ?_;rw [ug.ret,H7.zw (k:=1) (n:=2) rfl rfl,H7.zw (k:=0) (n:=2) rfl rfl];exact hK _ _ _ _ _ H7 (gJ (yU (by unfold rV;omega)).frz (yU (by unfold rV;omega)).frz) ⟨_,_,rfl,by rw [g1];exact yU (by unfold rV;omega),by rw [g2];exact yU (by unfold rV;omega)⟩
 .obtain ⟨g1,g2⟩:=f2 (by omega);rw [Zaa cr,zC,zG,zA,ug.fC,uJ,uJ];simp only [zI,zO];refine H4.jd (l2:=[I (a.tdiv b),.ze]) (k:=1) rfl rfl rfl λh6 H6 => ?_;refine H6.jd (l2:=[I (a.tmod b),.ze]) (k:=0) rfl rfl rfl λh7 H7 => ?_;rw [ug.ret,H7.zw (k:=1) (n:=2) rfl rfl,H7.zw (k:=0) (n:=2) rfl rfl];exact hK _ _ _ _ _ H7 (gJ (yU (by unfold rV;omega)).frz (yU (by unfold rV;omega)).frz) ⟨_,_,rfl,by rw [g1];exact yU (by unfold rV;omega),by rw [g2];exact yU (by unfold rV;omega)⟩
theorem zkx {va vb:AV} {a b c:Int} (hva:xh va a) (hvb:xh vb b) (hb:b≠0) (hc:a=c*b):Pure Tryz.prog B 259 [va,vb] (λv=>xh v c):=by
 have hva0:=hva;have hvb0:=hvb;obtain ⟨s,w,rfl,hva⟩:=hva;obtain ⟨s',w',rfl,hvb⟩:=hvb;refine zX λh nx K H0 hK=>zN zQ yD 100 λhf => ?_;rw [qx.go,qx.t10,zA,qx.zy];refine H0.box (l:=[s,w]) rfl λpa h1 nx1 H1 => ?_;refine H1.box (l:=[s',w']) rfl λpb h2 nx2 H2 => ?_;refine H2.alloc λp h3 nx3 H3 => ?_
 have tail:∀ {h5:T Blk} {nx5:Pa} {s1 w1 s2 w2:AV} {a' b':Int} {x5 x6:AV},Hp h h5 nx5 [.arr p [I 0,.ze],.arr pb [s2,w2],.arr pa [s1,w1]]->bf s1 w1 a'->bf s2 w2 b'->1<=b'->a'=c*b' ->
   IR.run qx.t8 (CS Tryz.prog B) 100 (fnO qx.res K) (zi qx.res K) (qx.fr (.agg [s,w]) (.agg [s',w']) (.ptr pa 0) (.ptr pb 0) (.ptr p 0) x5 x6) h5 nx5=.ok True:=by
  intro h5 nx5 s1 w1 s2 w2 a' b' x5 x6 H i1 i2 hb' e;rw [qx.t8,zA,qx.fG,H.zw (k:=2) (n:=2) rfl rfl,H.zw (k:=1) (n:=2) rfl rfl];refine bZ ⟨_,_,rfl,i1⟩ ⟨_,_,rfl,i2⟩ hb' _ _ _ _ ?_;rintro _ ⟨v1,v2,rfl,⟨s3,w3,rfl,i3⟩,⟨s4,w4,rfl,i4⟩⟩ _;rw [jE,jD];refine H.alloc λp1 h6 nx6 H6 => ?_;refine H6.alloc λq1 h7 nx7 H7 => ?_;refine H7.jd (l2:=[s3,w3]) (k:=1) rfl rfl rfl λh8 H8 => ?_;refine H8.jd (l2:=[s4,w4]) (k:=0) rfl rfl rfl λh9 H9 => ?_;rw [zA,qx.qi,H9.zw (k:=1) (n:=2) rfl rfl];refine H9.jd (l2:=[s3,w3]) (k:=2) rfl rfl rfl λh10 H10 => ?_;simp only [zI,zO];rw [qx.ret,H10.zw (k:=2) (n:=2) rfl rfl];have:a' / b'=c:=by rw [e];exact Int.mul_ediv_cancel _ (by omega)
  rw [this] at i3;exact hK _ _ _ _ _ H10 (aP i3.fix) ⟨_,_,rfl,i3⟩
 rw [zA,zA,qx.zx,H3.zw (k:=1) (n:=2) rfl rfl];refine dH hvb0 _ _ _ _ ?_;rintro _ rfl _;rw [ji,zB,qx.v6];by_cases cb:b<0
 .rw [Zab (by unfold qD;rw [if_pos cb];decide),zD,qx.je,H3.zw (k:=2) (n:=2) rfl rfl,H3.zw (k:=1) (n:=2) rfl rfl];refine xF hva0 _ _ _ _ ?_;rintro _ ⟨s3,w3,rfl,i3⟩ _;rw [H3.zw (k:=1) (n:=2) rfl rfl,zF];refine xF hvb0 _ _ _ _ ?_;rintro _ ⟨s4,w4,rfl,i4⟩ _;refine H3.jd (l2:=[s3,w3]) (k:=2) rfl rfl rfl λh8 H8 => ?_;refine H8.jd (l2:=[s4,w4]) (k:=1) rfl rfl rfl λh9 H9 => ?_;exact tail H9 i3 i4 (by omega) (by rw [hc,Int.mul_neg])
 .rw [Zaa (by unfold qD;rw [if_neg cb];split <;> decide),zC,zG];exact tail H3 hva hvb (by omega) hc
theorem bf.sgn {s w:AV} {z:Int} (h:bf s w z):∃ n,s=I n/\(n<0↔z<0):=by
 obtain ⟨rfl,_⟩:=h;exact ⟨_,rfl,Iff.rfl⟩
theorem zhl {v:AV} {z:Int} (hv:xh v z):Pure Tryz.prog B 299 [v] (λv=>xh v (z.natAbs:Int)):=by
 have hv0:=hv;obtain ⟨s,w,rfl,hv⟩:=hv;obtain ⟨n,rfl,hn⟩:=hv.sgn;refine zX λh nx K H0 hK=>zN zQ yD 100 λhf => ?_;rw [pz.go,pz.t9,zA,pz.zy];refine H0.box (l:=[I n,w]) rfl λpa h1 nx1 H1 => ?_;refine H1.alloc λp h2 nx2 H2 => ?_;rw [zA,zA,pz.zx,sFx,H2.load (k:=1) (i:=0+0) rfl rfl,ji,zB,pz.v3];by_cases c:n<0
 .rw [Zab c,zD,zA,pz.je,H2.zw (k:=1) (n:=2) rfl rfl];refine xF hv0 _ _ _ _ ?_;rintro _ ⟨s',w',rfl,hc⟩ _;refine H2.jd (l2:=[s',w']) (k:=0) rfl rfl rfl λh4 H4 => ?_;simp only [zI,zO];rw [pz.ret,H4.zw (k:=0) (n:=2) rfl rfl];have:=hn.1 c;rw [show -z=(z.natAbs:Int) by omega] at hc;exact hK _ _ _ _ _ H4 (aP hc.fix) ⟨_,_,rfl,hc⟩
 .rw [Zaa c,zC,zG,zA,pz.qi,H2.zw (k:=1) (n:=2) rfl rfl];refine H2.jd (l2:=[I n,w]) (k:=0) rfl rfl rfl λh4 H4 => ?_;simp only [zI,zO];rw [pz.ret,H4.zw (k:=0) (n:=2) rfl rfl];have:¬ z<0:=λq=>c (hn.2 q);rw [show z=(z.natAbs:Int) by omega] at hv;exact hK _ _ _ _ _ H4 (aP hv.fix) ⟨_,_,rfl,hv⟩
theorem zrz {va vb:AV} {a b:Int} (hva:xh va a) (hvb:xh vb b):Pure Tryz.prog B 258 [va,vb] (λv=>xh v (Int.gcd a b:Int)):=by
 have hva0:=hva;have hvb0:=hvb;obtain ⟨s,w,rfl,hva⟩:=hva;obtain ⟨s',w',rfl,hvb⟩:=hvb;refine zX λh nx K H0 hK=>zN zQ yD (b.natAbs+100) λhf => ?_;rw [uy.go,uy.t16,zA,uy.zy];refine H0.box (l:=[s,w]) rfl λpa h1 nx1 H1 => ?_;refine H1.box (l:=[s',w']) rfl λpb h2 nx2 H2 => ?_;refine H2.alloc λp h3 nx3 H3 => ?_;rw [zA,uy.zx,H3.zw (k:=2) (n:=2) rfl rfl,H3.zw (k:=1) (n:=2) rfl rfl];refine zhl hva0 _ _ _ _ ?_;rintro _ ⟨s1,w1,rfl,i1⟩ _;rw [H3.zw (k:=1) (n:=2) rfl rfl,zF];refine zhl hvb0 _ _ _ _ ?_;rintro _ ⟨s2,w2,rfl,i2⟩ _;refine H3.jd (l2:=[s1,w1]) (k:=2) rfl rfl rfl λh4 H4 => ?_;refine H4.jd (l2:=[s2,w2]) (k:=1) rfl rfl rfl λh5 H5 => ?_;rw [zA,zK];refine uy.znw (λm h' nx'=>∃ (x y:Nat) (s1 w1 s2 w2:AV),bf s1 w1 (x:Int)/\bf s2 w2 (y:Int)/\m=y/\Nat.gcd x y=Int.gcd a b/\Hp h h' nx' [.arr p [I 0,.ze],.arr pb [s2,w2],.arr pa [s1,w1]]) (m:=b.natAbs) (by omega) ⟨a.natAbs,b.natAbs,s1,w1,s2,w2,i1,i2,rfl,rfl,H5⟩ ?_;rintro m z5 z6 h6 nx6 R ⟨x,y,s1,w1,s2,w2,i1,i2,rfl,hg,H6⟩ hR;rw [uy.t9,zA,zA,uy.je,H6.zw (k:=1) (n:=2) rfl rfl];refine dH ⟨_,_,rfl,i2⟩ _ _ _ _ ?_;rintro _ rfl _;rw [fD,zB,uy.v6];by_cases c:m=0
 .subst c;rw [Zab (by rfl),Zak,zC,zZ,yE,zA,uy.rP,H6.zw (k:=2) (n:=2) rfl rfl];refine H6.jd (l2:=[s1,w1]) (k:=0) rfl rfl rfl λh7 H7 => ?_;simp only [zI,zO];rw [uy.ret,H7.zw (k:=0) (n:=2) rfl rfl];rw [Zge] at hg;rw [hg] at i1;exact hK _ _ _ _ _ H7 (aP i1.fix) ⟨_,_,rfl,i1⟩
 .have hs:qD (m:Int)=1:=by unfold qD;rw [if_neg (by omega),if_pos (by omega)]
  rw [hs,Zaa (by decide),Zam,zD,zG,zK,zA,uy.fG,H6.zw (k:=2) (n:=2) rfl rfl,H6.zw (k:=1) (n:=2) rfl rfl];refine bZ ⟨_,_,rfl,i1⟩ ⟨_,_,rfl,i2⟩ (by omega) _ _ _ _ ?_;rintro _ ⟨v1,v2,rfl,⟨s3,w3,rfl,i3⟩,⟨s4,w4,rfl,i4⟩⟩ _;rw [jE,jD];refine H6.alloc λp1 h7 nx7 H7 => ?_;refine H7.alloc λq1 h8 nx8 H8 => ?_;refine H8.jd (l2:=[s3,w3]) (k:=1) rfl rfl rfl λh9 H9 => ?_;refine H9.jd (l2:=[s4,w4]) (k:=0) rfl rfl rfl λh10 H10 => ?_;rw [uy.qi,H10.zw (k:=3) (n:=2) rfl rfl,H10.zw (k:=0) (n:=2) rfl rfl];refine H10.jd (l2:=[s2,w2]) (k:=4) rfl rfl rfl λh11 H11 => ?_;rw [H11.zw (k:=0) (n:=2) rfl rfl,zF];refine H11.jd (l2:=[s4,w4]) (k:=3) rfl rfl rfl λh12 H12 => ?_;rw [<- Int.natCast_emod] at i4;have hlt:=Zby x (show 0<m by omega);refine hR (x%m) _ _ _ _ hlt ⟨m,x%m,s2,w2,s4,w4,i2,i4,rfl,?_,H12.drop.drop⟩;rw [<- hg,Zfh x m,Nat.gcd_rec m x,Zfh]
end Go.Ev
