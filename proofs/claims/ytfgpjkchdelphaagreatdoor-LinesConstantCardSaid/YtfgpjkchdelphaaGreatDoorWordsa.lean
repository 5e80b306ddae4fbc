import Derived.Test.YtfgpjkchdelphaaGreatDoorEvC
import Derived.Test.YtfgpjkchdelphaaGreatDoorLaws
import Derived.Test.YtfgpjkchdelphaaGreatDoorIrT
import Derived.Test.YtfgpjkchdelphaaGreatDoorEvD
import Derived.KernelRfl
import Derived.Test.YtfgpjkchdelphaaGreatDoorCodea
set_option linter.unusedSimpArgs false
set_option linter.unusedVariables false
noncomputable section
namespace Go.Ev
open Go Go.Proofs Go.RowKit
def cO:List AV->Option (List (List UInt8))
 | []=>some []
 | .str s::l=>match cO l with
  | some xs=>some (s::xs)
  | none=>none
 | _=>none
def zvy (l:List AV) (sep:List UInt8):Option AV:=match cO l with
 | some xs=>bif Nat.ble (Lib.join xs sep).length 100000 then some (.str (Lib.join xs sep)) else none
 | none=>none
def zvz (cap:Option Nat) (ln:Nat):Bool:=match cap with
 | some k=>Nat.ble ln k
 | none=>true
def zqp (v:AV) (sep:List UInt8) (h:T Blk):Option AV:=match v with
 | .sl id off ln cap esz=>match T.get .no id h with
  | .cells _ m t=>bif Nat.beq esz 1&&Nat.ble (off+ln) m&&Nat.ble ln 100000&&zvz cap ln then zvy (yU t off ln) sep else none
  | _=>none
 | .za=>some (.str [])
 | _=>none
def zgz (f:Nat) (args:List AV) (h:T Blk):Option (AV×T Blk):=bif Nat.beq f 281 then (match args with
 | [v,.str sep]=>match zqp v sep h with
  | some v=>some (v,h)
  | none=>none
 | _=>none) else none
theorem zg1:∀ {l:List AV} {xs:List (List UInt8)},cO l=some xs->l=xs.map .str
 | [],xs,h=>by simp [cO] at h;subst h;rfl
 | x::l,xs,h=>by
  cases x <;> first | (simp [cO] at h;done) | skip
  simp only [cO] at h;cases hl:cO l with
  | none=>simp [hl] at h
  | some ys=>simp [hl] at h;subst h;simp [zg1 hl]
theorem HR.below {P:Program} {B:Nat} {E:Env} {h:T Blk} {nx:Pa} {w w':World} (H:HR P B E h nx w) (hb:Below w.heap.size w w'):HR P B E h nx w'/\Ex E E w w':=by
 refine ⟨{
  blk:=λid hid=>by
   obtain ⟨b,n,o,q1,q2,q3⟩:=H.blk id hid;exact ⟨b,n,o,q1,by rw [hb.block b (H.lt _ _ _ q1).2];exact q2,q3⟩
  inj:=H.inj
  fresh:=H.fresh
  lt:=λid b n hid=>⟨(H.lt id b n hid).1,Zcj (H.lt id b n hid).2 hb.size⟩
  base:=Zay H.base hb.size
  frz:=λb i v hf=>by
   obtain ⟨⟨c,ty,fr,q1,q2⟩,q3⟩:=H.frz b i v hf;exact ⟨⟨c,ty,fr,by rw [hb.block b (Array.getElem?_eq_some_iff.1 q1).1];exact q1,q2⟩,q3⟩ },?_⟩
 exact ⟨.refl _,hb.os,hb.tape,hb.output,hb.size,λb hlt _=>hb.block b hlt,λid b n hid=>.inr ⟨id,n,hid⟩,λ_ _ v h=>.inr (.inl ⟨v,h⟩),λb L hL=>⟨L,by rw [hb.block b (Array.getElem?_eq_some_iff.1 hL).1];exact hL,.refl _⟩⟩
theorem zbt {B:Nat}:JOk Tryz.prog B zgz:=by
 intro E h nx w f args vs v h2 H hv hj;unfold zgz at hj;cases hf:Nat.beq f 281 with
 | false=>simp [hf] at hj
 | true =>
  obtain rfl:=yO hf;rw [hf,cond_true] at hj;split at hj
  case h_2=>cases hj
  rename_i _ x sep;cases hjj:zqp x sep h with
  | none=>simp [hjj] at hj
  | some v0 =>
  simp only [hjj,Option.some.injEq,Prod.mk.injEq] at hj;obtain ⟨rfl,rfl⟩:=hj;have hj:=hjj
  clear hjj
  refine ⟨(),trivial,trivial,trivial,λn=>.inl ⟨_,Tryz.func281,by kernel_rfl,by kernel_rfl,callsIn_wide.2 ?_⟩⟩;obtain ⟨l⟩:=vs;simp only [VRL] at hv;obtain ⟨u,_,rfl,hu,s,_,rfl,hs,rfl⟩:=hv;simp only [VR] at hs;subst hs
  have fin:∀ (xs:List (List UInt8)) (w':World) (e:Ending),v0=.str (Lib.join xs sep)->e=.returned (.string ⟨(Lib.join ((xs.map λs=>(⟨s.toArray⟩:ByteArray)).map (·.data.toList)) (⟨sep.toArray⟩:ByteArray).data.toList).toArray⟩)->Below w.heap.size w w' ->
    ∃ u E',e=.returned u/\VR E' v0 u/\HR Tryz.prog B E' h nx w'/\Ex E E' w w':=by
   intro xs w' e hve he hb;obtain ⟨h1,h2⟩:=H.below hb;refine ⟨_,E,he,?_,h1,h2⟩;rw [hve];simp only [VR,List.map_map]
   congr 2
   have:(xs.map ((λx=>x.data.toList) ∘ λs=>(⟨s.toArray⟩:ByteArray)))=xs:=by
    conv=>rhs;rw [<- List.map_id xs]
    exact Zge λ_ _=>rfl
   rw [this]
  unfold zqp at hj;split at hj
  .rename_i id off ln cap esz;split at hj
   .rename_i op m t hb;cases hq:(Nat.beq esz 1&&Nat.ble (off+ln) m&&Nat.ble ln 100000&&zvz cap ln) with
    | false=>simp [hq] at hj
    | true =>
     rw [hq,cond_true] at hj;simp only [Zak] at hq;obtain ⟨⟨⟨q1,q2⟩,q3⟩,q4⟩:=hq;obtain rfl:=yO q1;have q2:=yF q2;have q3:=yF q3;unfold zvy at hj;cases hx:cO (yU t off ln) with
     | none=>simp [hx] at hj
     | some xs =>
      simp only [hx] at hj;cases hl:Nat.ble (Lib.join xs sep).length 100000 with
      | false=>simp [hl] at hj
      | true =>
       rw [hl,cond_true] at hj;have hl:=yF hl;obtain rfl:=(Option.some.inj hj).symm;have hxs:=zg1 hx;have hln:xs.length=ln:=by
        have:=congrArg List.length hxs;simpa using this.symm
       obtain ⟨b,n,c,hE,rfl,hcap⟩:=hu.ai;obtain ⟨b',n',o,h1,h2,h3⟩:=H.blk id (by rw [hb];intro e;cases e);rw [hE] at h1;cases h1;rw [hb] at h3;obtain ⟨cs,ty,fr,rfl,_,_,_,_,hc⟩:=h3
       have hjn:=Tryz.strings_Join b off c (xs.map λs=>(⟨s.toArray⟩:ByteArray)) ⟨sep.toArray⟩ w (by
        intro j x hx2;rw [List.getElem?_map] at hx2;cases hxj:xs[j]? with
        | none=>simp [hxj] at hx2
        | some s =>
         simp [hxj] at hx2;subst hx2;have hjl:j<ln:=by rw [<- hln];exact (List.getElem?_eq_some_iff.1 hxj).1
         obtain ⟨_,v',g1,g2⟩:=hc (off+j) (by omega);have he:T.get .u (.of (off+j)) t=.str s:=by
          have e1:=yK t off ln j hjl;rw [hxs] at e1;simp [hxj] at e1;exact e1.symm
         rw [he] at g2;simp only [VR] at g2;subst g2
         simp [World.cell?,h2,g1]) (H.lt _ _ _ hE).2 (by simp;omega) (by
          simp only [Zai,hln];cases cap with
          | none=>exact hcap.1
          | some k =>
           have h4:ln<=k:=yF q4;have h5:c=k:=hcap;omega) (by
          have:((xs.map λs=>(⟨s.toArray⟩:ByteArray)).map (·.data.toList))=xs:=by
           rw [List.map_map]
           conv=>rhs;rw [<- List.map_id xs]
           exact Zge λ_ _=>rfl
          rw [this];show (Lib.join xs sep).length<=_;omega)
       rw [Zai,hln] at hjn;exact hjn.mono λe w' ⟨he,hb⟩=>fin xs w' e rfl he hb
   .cases hj
  .obtain rfl:=(Option.some.inj hj).symm;simp only [VR] at hu;subst hu;exact (Tryz.strings_Join_none none 0 _ w).mono λe w' ⟨he,hb⟩=>fin [] w' e rfl he (hb ▸ Below.refl _ _)
  .cases hj
end Go.Ev
namespace Go.Ev
open Go Go.Proofs
def zjd (J:Nat->List AV->T Blk->Option (AV×T Blk)) (f:Nat) (args:List AV) (res:AV):Bool:=match (dJ (λ_=>false) J tbl 1000 60).fn f (.of f) args .e .z endK with
 | .ok v=>aX v res
 | .no _=>false
theorem zg0 {J:Nat->List AV->T Blk->Option (AV×T Blk)} {f:Nat} {args:List AV} {res:AV} {B:Nat} (hJ:∀ B,JOk Tryz.prog B J) (ha:nns args=true) (h:zjd J f args res=true):Pure Tryz.prog B f args (· = res):=by
 unfold zjd at h;cases hq:(dJ (λ_=>false) J tbl 1000 60).fn f (.of f) args .e .z endK with
 | no n=>rw [hq] at h;cases h
 | ok v =>
  rw [hq] at h;have e:=vO h;subst e;exact jE zP mixed hJ ha hq
end Go.Ev
namespace Go.Ev
def bv (b:Nat):List Nat->Nat
 | []=>0
 | x::l=>x+b*bv b l
theorem qU (b:Nat):∀ l m:List Nat,bv b (l++m)=bv b l+b ^ l.length*bv b m
 | [],m=>by simp [bv]
 | x::l,m=>by
  rw [Zbx,bv,qU b l m,bv,Zbd,Zei,Zem,Zda,Zcm (b ^ l.length) b,Zey]
theorem fA (b:Nat) (l:List Nat) (x:Nat):bv b (l++[x])=bv b l+b ^ l.length*x:=by
 rw [qU];simp [bv]
def Dg (b:Nat) (l:List Nat):Prop:=∀ x∈l,x<b
theorem zc9 {b:Nat} (hb:0<b):∀ {l:List Nat},Dg b l->bv b l<b ^ l.length
 | [],_=>by simp [bv]
 | x::l,h=>by
  have h1:=zc9 hb (l:=l) λy hy=>h y (by simp [hy]);have h2:=h x (by simp);rw [bv,Zbd,Zei,Zcm (b ^ l.length) b];have h3:b*(bv b l+1)<=b*b ^ l.length:=Zds b h1;rw [Zem,Zco] at h3;omega
def Nm (l:List Nat):Prop:=l.getLast? ≠ some 0
def dg (b:Nat) (z:Nat):List Nat:=if h:z=0\/b<2 then [] else z%b::dg b (z / b)
termination_by z
decreasing_by
 have h1:z≠0:=λq=>h (.inl q);have h2:¬ b<2:=λq=>h (.inr q);exact Nat.div_lt_self (Zfj h1) (by omega)
theorem j8 (b:Nat):dg b 0=[]:=by rw [dg];simp
theorem kJ {b z:Nat} (hb:2<=b) (hz:z≠0):dg b z=z%b::dg b (z / b):=by
 rw [dg,dif_neg (by omega)]
theorem qG {b:Nat} (hb:2<=b) (z:Nat):bv b (dg b z)=z/\Dg b (dg b z)/\Nm (dg b z):=by
 induction z using Nat.strongRecOn with
 | ind z ih =>
  by_cases hz:z=0
  .subst hz;rw [j8];exact ⟨rfl,λx hx=>by simp at hx,by simp [Nm]⟩
  .obtain ⟨h1,h2,h3⟩:=ih (z / b) (Nat.div_lt_self (Zfj hz) (by omega));rw [kJ hb hz];refine ⟨?_,?_,?_⟩
   .rw [bv,h1];exact Nat.mod_add_div z b
   .intro x hx;rcases List.mem_cons.1 hx with rfl | hx
    .exact Zed _ (by omega)
    .exact h2 x hx
   .unfold Nm at *
    by_cases hd:z / b=0
    .rw [hd,j8];have:z<b:=by
      rcases Nat.div_eq_zero_iff.1 hd with q | q
      .omega
      .exact q
     simp [Zcg this];exact hz
    .rw [kJ hb hd] at h3 ⊢;rw [List.getLast?_cons_cons];exact h3
theorem cI {b:Nat} (hb:2<=b):∀ {l:List Nat},Dg b l->Nm l->l=dg b (bv b l)
 | [],_,_=>by rw [bv,j8]
 | x::l,h,hn=>by
  have hx:=h x (by simp);have hl:Dg b l:=λy hy=>h y (by simp [hy]);have hnl:Nm l:=by
   unfold Nm at *
   cases l with
   | nil=>simp
   | cons y l=>rw [List.getLast?_cons_cons] at hn;exact hn
  have ih:=cI hb hl hnl;have hz:bv b (x::l)≠0:=by
   rw [bv];intro q;have hx0:x=0:=by omega
   have hv:bv b l=0:=by
    have:b*bv b l=0:=by omega
    rcases Nat.mul_eq_zero.1 this with q | q
    .omega
    .exact q
   rw [hv,j8] at ih;subst ih;subst hx0;simp [Nm] at hn
  rw [kJ hb hz,bv];have e1:(x+b*bv b l)%b=x:=by rw [Nat.add_mul_mod_self_left,Zcg hx]
  have e2:(x+b*bv b l) / b=bv b l:=by rw [Nat.add_mul_div_left _ _ (by omega),Zej hx,Zbl]
  rw [e1,e2,<- ih]
theorem vM {b:Nat} {l:List Nat} {i x:Nat} (h:l[i]? = some x):bv b (l.take (i+1))=bv b (l.take i)+b ^ i*x:=by
 have hi:i<l.length:=(List.getElem?_eq_some_iff.1 h).1;rw [Zar,h];show bv b (l.take i++[x])=_;rw [fA,Zah,Zce (by omega)]
theorem zx0 {U V q r:Nat} (h:U=q*V+r) (hr:r<V):U / V=q/\U%V=r:=by
 have hv:0<V:=by omega
 subst h;refine ⟨?_,?_⟩
 .rw [Zdp,Nat.add_mul_div_right _ _ hv,Zej hr,Zbl]
 .rw [Zdp,Nat.add_mul_mod_self_right,Zcg hr]
end Go.Ev
namespace Go.Ev
open Go Go.Proofs
variable {B:Nat}
set_option maxRecDepth 100000
theorem yD {B:Nat}:bM Tryz.prog B Prop:=zbf mixed
abbrev U (m:Nat):AV:=.int .u64 (m:Int)
def encW (l:List Nat):AV:=.lst 1 l.length (l.map U)
theorem zv0 {z:Int} (h:0<=z/\z<18446744073709551616):IntKind.wrap .u64 z=z:=by
 have e:IntKind.wrap .u64 z=z%18446744073709551616:=by
  unfold IntKind.wrap;first | rfl | simp [IntKind.bits,IntKind.signed] | skip
 rw [e];omega
theorem zqq {m:Nat}:IntKind.wrap .u64 (m:Int)=((m%18446744073709551616:Nat):Int):=by
 have e:IntKind.wrap .u64 (m:Int)=(m:Int)%18446744073709551616:=by
  unfold IntKind.wrap;first | rfl | simp [IntKind.bits,IntKind.signed] | skip
 rw [e];omega
theorem zx1 {z:Int}:IntKind.wrap .u64 z=z%18446744073709551616:=by
 unfold IntKind.wrap;first | rfl | simp [IntKind.bits,IntKind.signed]
theorem uAdd {a b:Nat} {K:AV->OP}:ze .add .int (U a) (U b) K=K (U ((a+b)%18446744073709551616)):=by
 rw [zvc,show (a:Int)+(b:Int)=((a+b:Nat):Int) by omega,zqq]
theorem uMul {a b:Nat} {K:AV->OP}:ze .mul .int (U a) (U b) K=K (U ((a*b)%18446744073709551616)):=by
 rw [qaw,show (a:Int)*(b:Int)=((a*b:Nat):Int) by simp,zqq]
theorem uShr {m n:Nat} {k:IntKind} {K:AV->OP} (hn:n<=64):ze .shr .int (U m) (.int k (n:Int)) K=K (U (m / 2 ^ n)):=by
 have e:ze .shr .int (U m) (.int k (n:Int)) K=(bif ilt (n:Int) 0 then Out.no 5 else vz ((m:Int).fdiv (2 ^ (min (n:Int).toNat IntKind.u64.bits))) λz=>K (.int .u64 z)):=by cases k <;> rfl
 have h0:ilt (n:Int) 0=false:=rfl;rw [e,h0,cond_false,uR];have hb:IntKind.u64.bits=64:=rfl;rw [hb,Zgs,Zce hn,Int.fdiv_eq_ediv_of_nonneg _ (Zfo (by omega))]
 congr 2
theorem zbv {m:Nat} {k:IntKind} {K:AV->OP}:ze .shr .int (U m) (.int k 32) K=K (U (m / 4294967296)):=uShr (n:=32) (by omega)
theorem uAnd {m:Nat} {K:AV->OP} (hm:m<18446744073709551616):ze .and .int (U m) (.int .u64 4294967295) K=K (U (m%4294967296)):=by
 have e:ze .and .int (U m) (U 4294967295) K=vz (IntKind.u64.wrap ((BitVec.ofInt 64 (m:Int) &&& BitVec.ofInt 64 ((4294967295:Nat):Int)).toNat:Int)) λz=>K (.int .u64 z):=rfl;have h1:(BitVec.ofInt 64 (m:Int) &&& BitVec.ofInt 64 ((4294967295:Nat):Int)).toNat=m%4294967296:=by
  rw [BitVec.ofInt_natCast,BitVec.ofInt_natCast,BitVec.toNat_and,BitVec.toNat_ofNat,BitVec.toNat_ofNat,Zcg hm];exact Nat.and_two_pow_sub_one_eq_mod m 32
 have e2:ze .and .int (U m) (.int .u64 4294967295) K=ze .and .int (U m) (U 4294967295) K:=rfl;rw [e2,e,uR,h1,zv0 (by omega)]
theorem uLeq {a b:Nat} {K:AV->OP}:ze .leq .int (U a) (U b) K=K (.bool (decide (a<=b))):=by rw [rT];simp only [Int.ofNat_le]
theorem uEql {a b:Nat} {K:AV->OP}:ze .eql .int (U a) (U b) K=K (.bool (decide (a=b))):=by rw [qx];simp only [Int.natCast_inj]
theorem qa7 {a:Nat} {K:AV->OP}:ze .eql .int (U a) (.int .u64 0) K=K (.bool (decide (a=0))):=uEql (b:=0)
theorem zv1 {k:IntKind} {z:Int} {m:Nat} {K:AV->OP} (h:z=(m:Int)) (hm:m<18446744073709551616):mE .u64 (.int k z) K=K (U m):=by
 show vz (kP .u64 z) (λz=>K (.int .u64 z))=_;rw [uR,xE,zv0 (by omega),h]
theorem zx2 {k:IntKind} {z:Int} {K:AV->OP} (h : -9223372036854775808<=z/\z<0):mE .u64 (.int k z) K=K (U (z+18446744073709551616).toNat):=by
 show vz (kP .u64 z) (λz=>K (.int .u64 z))=_;rw [uR,xE,zx1,show z%18446744073709551616=((z+18446744073709551616).toNat:Int) by omega]
theorem zje {k:IntKind} {z:Int} {K:AV->OP} (h : -9223372036854775808<=z/\z<=9223372036854775807):mE .i64 (.int k z) K=K (I z):=by
 show vz (kP .i64 z) (λz=>K (.int .i64 z))=_;rw [uR,xE,qO h]
theorem uNeg {z:Int} {K:AV->OP} (h : -9223372036854775807<=z/\z<=9223372036854775808):sNeg (I z) K=K (I (-z)):=by
 show vz (kP .i64 (0-z)) (λz=>K (.int .i64 z))=_;rw [uR,xE,qO (by omega),Int.zero_sub]
theorem qa8 {K:AV->OP}:sNeg (I (-9223372036854775808)) K=K (I (-9223372036854775808)):=nr rfl
theorem qa9 (l:List Nat):∀ v∈l.map U,fP v=true:=λv hv=>by obtain ⟨x,_,rfl⟩:=List.mem_map.1 hv;rfl
theorem zmo (l:List Nat):fP (encW l)=true:=xS (qa9 l)
theorem Hp.zqr {h0 h:T Blk} {nx id:Pa} {L:List Ob} {l:List AV} (H:Hp h0 h nx (.arr id l::L)):Hp h0 (T.set .no .no id h) nx L:=by
 have hid:T.get .no id h0=.no:=H.off id (by simp [Ob.names]);have H3:=H.drop;have nd:=H.nd;simp only [Zdc,Ob.names] at nd;have hni:id∉L.flatMap Ob.names:=λhi=>(List.nodup_append.1 nd).2.2 id (by simp) id hi rfl;have other:∀ j,j≠id->T.get .no j (T.set .no .no id h)=T.get .no j h:=λj hj=>T.zw _ _ _ _ _ hj;refine ⟨λj hj => ?_,λy hy => ?_,H3.off,H3.nd,λj hj => ?_⟩
 .rw [other j (by rintro rfl;exact hj hid)];exact H.keep j hj
 .exact (H3.own y hy).congr λm hm=>other m (by rintro rfl;exact hni (List.mem_flatMap.2 ⟨y,hy,hm⟩))
 .by_cases e:j=id
  .subst e;exact T.get_set_same _ _ _ _
  .rw [other j e];exact H.fr j hj
theorem zx3 {a b:Nat} (ha:a<18446744073709551616) (hb:b<18446744073709551616):Pure Tryz.prog B 263 [U a,U b] (· = .tup [U (a*b / 18446744073709551616),U (a*b%18446744073709551616)]):=by
 intro p h nx K hK;refine zN zP yD 10 λhf => ?_;rw [jf.go,jf.t23,zA,jf.zy,zA,jf.zx,uAnd ha,zA,jf.jb,zbv,zA,jf.dw,uAnd hb,zA,jf.rD,zbv];have ha0:a%4294967296<4294967296:=by omega
 have ha1:a / 4294967296<4294967296:=by omega
 have hb0:b%4294967296<4294967296:=by omega
 have hb1:b / 4294967296<4294967296:=by omega
 have ea:a=a / 4294967296*4294967296+a%4294967296:=by omega
 have eb:b=b / 4294967296*4294967296+b%4294967296:=by omega
 generalize a / 4294967296=a1 at *
 generalize a%4294967296=a0 at *
 generalize b / 4294967296=b1 at *
 generalize b%4294967296=b0 at *
 have m00:a0*b0<=4294967295*4294967295:=Zbk (by omega) (by omega);have m10:a1*b0<=4294967295*4294967295:=Zbk (by omega) (by omega);have m01:a0*b1<=4294967295*4294967295:=Zbk (by omega) (by omega);have m11:a1*b1<=4294967295*4294967295:=Zbk (by omega) (by omega);have hp:a*b=a1*b1*18446744073709551616+(a1*b0+a0*b1)*4294967296+a0*b0:=by
  rw [ea,eb];simp only [Zbf,Zem];have e1:a1*4294967296*(b1*4294967296)=a1*b1*18446744073709551616:=by
   rw [Nat.mul_mul_mul_comm]
  have e2:a1*4294967296*b0=a1*b0*4294967296:=by rw [Nat.mul_right_comm]
  have e3:a0*(b1*4294967296)=a0*b1*4294967296:=by rw [Zey]
  rw [e1,e2,e3];omega
 rw [zA,jf.rE,uMul,Zcg (show a0*b0<18446744073709551616 by omega),zA,jf.qg,uMul,Zcg (show a1*b0<18446744073709551616 by omega),zbv,uAdd,Zcg (show a1*b0+a0*b0 / 4294967296<18446744073709551616 by omega),zA,jf.fU,uAnd (by omega),zA,jf.fE,zbv,zA,jf.rF,uMul,Zcg (show a0*b1<18446744073709551616 by omega),uAdd,zA,jf.sV,uMul,Zcg (show a1*b1<18446744073709551616 by omega),uAdd,zbv,uAdd,zA,jf.pu,uMul];simp only [zE,zM];rw [jf.ret];refine hK _ ?_ hf;rw [hp]
 generalize a0*b0=p00 at *
 generalize a1*b0=p10 at *
 generalize a0*b1=p01 at *
 generalize a1*b1=p11 at *
 congr 3
 congr 1
 omega
theorem zkq {z:Int} (h : -9223372036854775808<=z/\z<=9223372036854775807):Pure Tryz.prog B 264 [I z] (· = U z.natAbs):=by
 refine zT λhh nx K H0 hK=>zN zP yD 100 λhf => ?_;have ret:∀ {m:Nat},m=z.natAbs->K (U m) hh nx=.ok True:=λe=>hK _ _ _ _ _ H0 (zR rfl) (by rw [e]);rw [vo.go,vo.t9,zA,vo.zy,zA,zA,vo.zx,jq,zB,vo.v2];by_cases c:z<0
 .rw [Zac c,zC,zA,vo.jb];by_cases d:z = -9223372036854775808
  .subst d;rw [qa8,zx2 (by omega)];simp only [zE,zM];rw [vo.ret];exact ret (by decide)
  .rw [uNeg (by omega),zv1 (m:=z.natAbs) (by omega) (by omega)];simp only [zE,zM];rw [vo.ret];exact ret rfl
 .rw [Zab c,zD,zG,zA,vo.qg,zv1 (m:=z.natAbs) (by omega) (by omega)];simp only [zE,zM];rw [vo.ret];exact ret rfl
theorem zti {l:List Nat} {k x:Nat} (h:l[k]? = some x) (hx:x≠0):Nm (l.take (k+1)):=by
 unfold Nm;rw [Zar,h];show (l.take k++[x]).getLast? ≠ _;rw [List.getLast?_concat];intro q;cases q;exact hx rfl
theorem Dg.take {b n:Nat} {l:List Nat} (h:Dg b l):Dg b (l.take n):=λx hx=>h x (Zbt hx)
def cmpT (a b:List Nat):Nat->Int
 | 0=>0
 | k+1=>if a.getD k 0=b.getD k 0 then cmpT a b k else if a.getD k 0<b.getD k 0 then -1 else 1
def cmpW (a b:List Nat):Int:=if a.length≠b.length then (if a.length<b.length then -1 else 1) else cmpT a b a.length
theorem getD_some {l:List Nat} {k:Nat} (h:k<l.length):l[k]? = some (l.getD k 0):=by rw [Zaa,List.getElem?_eq_getElem h];rfl
theorem mU {b:Nat} {l:List Nat} {k:Nat} (hb:0<b) (h:Dg b l):l.getD k 0<b:=by
 by_cases c:k<l.length
 .exact h _ (Zad (getD_some c))
 .rw [Zaa,List.getElem?_eq_none (by omega)];exact hb
theorem zda {b:Nat} {x y:List Nat} (hb:0<b) (hx:Dg b x) (hy:Dg b y):∀ {k:Nat},k<=x.length->k<=y.length->cmpT x y k=(if bv b (x.take k)<bv b (y.take k) then -1 else if bv b (y.take k)<bv b (x.take k) then 1 else 0)
 | 0,_,_=>by simp [cmpT,bv]
 | k+1,h1,h2=>by
  have e1:=getD_some (l:=x) (k:=k) (by omega);have e2:=getD_some (l:=y) (k:=k) (by omega);have l1:=zc9 hb (hx.take (n:=k));have l2:=zc9 hb (hy.take (n:=k));rw [Zah,Zce (by omega)] at l1 l2;rw [cmpT,vM e1,vM e2,zda hb hx hy (by omega) (by omega)]
  generalize bv b (x.take k)=X at *
  generalize bv b (y.take k)=Y at *
  generalize x.getD k 0=u at *
  generalize y.getD k 0=v at *
  generalize b ^ k=P at *
  by_cases c:u=v
  .rw [if_pos c,c];simp only [Nat.add_lt_add_iff_right]
  .rw [if_neg c];by_cases d:u<v
   .have q:P*(u+1)<=P*v:=Zds P d;rw [Zem,Zco] at q;have q1:X+P*u<Y+P*v:=by omega
    rw [if_pos d,if_pos q1]
   .have q:P*(v+1)<=P*u:=Zds P (by omega);rw [Zem,Zco] at q;have q1:Y+P*v<X+P*u:=by omega
    have q2:¬ X+P*u<Y+P*v:=by omega
    rw [if_neg d,if_neg q2,if_pos q1]
theorem kW {b z n:Nat} (hb:2<=b) (h:z<b ^ n):(dg b z).length<=n:=by
 induction n generalizing z with
 | zero=>rw [show z=0 by simp at h;exact h,j8];simp
 | succ n ih =>
  by_cases hz:z=0
  .rw [hz,j8];simp
  .rw [kJ hb hz,Zbd];have:=ih (z:=z / b) (by rw [Nat.div_lt_iff_lt_mul (by omega),<- Zei];exact h);omega
theorem wS {b y z:Nat} (hb:2<=b) (h:(dg b y).length<(dg b z).length):y<z:=by
 rcases Zdb y z with q | q
 .exact q
 .exfalso
  have h1:=kW hb (z:=z) (n:=(dg b y).length) (Zcs q (by
   have:=zc9 (b:=b) (by omega) (qG hb y).2.1
   rwa [(qG hb y).1] at this))
  omega
def cmpN (a b:Nat):Int:=if a<b then -1 else if b<a then 1 else 0
theorem ztj {b x y:Nat} (hb:2<=b):cmpW (dg b x) (dg b y)=cmpN x y:=by
 unfold cmpW cmpN;by_cases c:(dg b x).length=(dg b y).length
 .rw [if_neg (by simpa using c),zda (by omega) (qG hb x).2.1 (qG hb y).2.1 (Zaf _) (by omega),Zcz,c,Zcz,(qG hb x).1,(qG hb y).1]
 .rw [if_pos c];by_cases d:(dg b x).length<(dg b y).length
  .rw [if_pos d,if_pos (wS hb d)]
  .have:=wS hb (y:=y) (z:=x) (by omega);rw [if_neg d,if_neg (by omega),if_pos this]
theorem dT {α:Type} {A C:List α} {x y:α} {i:Nat} (h:A.length=i):(A++x::C).set i y=A++y::C:=by
 subst h;rw [Zes _ _ (Zaf _),Zcd];rfl
theorem Dg.append {b:Nat} {l m:List Nat} (h1:Dg b l) (h2:Dg b m):Dg b (l++m):=λx hx=>by
 rcases List.mem_append.1 hx with q | q
 .exact h1 x q
 .exact h2 x q
theorem Dg.one {b x:Nat} (h:x<b):Dg b [x]:=λy hy=>by rw [List.mem_singleton.1 hy];exact h
theorem Dg.rep {b n:Nat} (h:0<b):Dg b (List.replicate n 0):=λx hx=>by rw [(List.mem_replicate.1 hx).2];exact h
theorem zqs {b q r d a z A:Nat} (h:A=z*d+r) (hq:(r*b+a)=q*d+(r*b+a)%d):a+b*A=(q+b*z)*d+(r*b+a)%d:=by
 rw [h,Zbf,Zem,Zey,Zcm b r];omega
theorem zqt {k:Nat} {Q:List Nat}:List.replicate (k+1) 0++Q=List.replicate k 0++0::Q:=by
 rw [List.replicate_succ',Zbu];rfl
theorem zqu {b:Nat} {l:List Nat} {k:Nat} (h:k<=l.length):bv b l=bv b (l.take k)+b ^ k*bv b (l.drop k):=by
 have:=qU b (l.take k) (l.drop k)
 rwa [Zep,Zah,Zce h] at this
def eG (s w:AV) (z:Int):Prop :=
 (s=I z/\w=.za /\ -9223372036854775808<=z/\z<=9223372036854775807) \/
 (∃ n:Int,s=I n/\w=encW (dg 18446744073709551616 z.natAbs)/\((z<0/\n = -1)\/(0<z/\n=1))/\9223372036854775808<=z.natAbs)
def IntV (v:AV) (z:Int):Prop:=∃ s w,v=.agg [s,w]/\eG s w z
theorem uAgg {N:Pa->Prop} {O:AV->Prop} {hh:T Blk} {l:List AV} (h:∀ v∈l,fP v=true):Frz True N O hh (.agg l) (.agg l) :=
 .agg _ _ rfl (List.all_eq_true.2 λv hv=>fP.uz (h v hv)) λi v v' h1 h2=>by rw [h1] at h2;cases h2;exact zR (h v (Zad h1))
theorem eG.fix {s w:AV} {z:Int} (h:eG s w z):∀ v∈[s,w],fP v=true:=by
 intro v hv;simp only [Zaq,Zfy,or_false] at hv;rcases h with ⟨rfl,rfl,_⟩ | ⟨n,rfl,rfl,_⟩
 .rcases hv with rfl | rfl <;> rfl
 .rcases hv with rfl | rfl
  .rfl
  .exact zmo _
theorem IntV.frz {v:AV} {z:Int} (h:IntV v z) {N:Pa->Prop} {O:AV->Prop} {hh:T Blk}:Frz True N O hh v v:=by
 obtain ⟨s,w,rfl,h⟩:=h;exact uAgg h.fix
theorem zbw {z:Int} (h : -9223372036854775808<=z/\z<=9223372036854775807):IntV (.agg [I z,.za]) z:=⟨_,_,rfl,.inl ⟨rfl,rfl,h.1,h.2⟩⟩
theorem qba {n:Nat} (h:n≠0):1<=(dg 18446744073709551616 n).length:=by rw [kJ (by decide) h];simp
theorem zx4 {K:AV->OP}:ze .eql (.nil .sl) .za .za K=K (.bool true):=nr rfl
theorem ztk {l:List Nat} (h:1<=l.length):gR .sl (encW l)=some false:=by
 show (bif Nat.ble 1 l.length then some false else none)=_;rw [Zag h];rfl
theorem zx5 {l:List Nat} {K:AV->OP} (h:1<=l.length):ze .eql (.nil .sl) (encW l) .za K=K (.bool false):=by
 have e2:ze .eql (.nil .sl) (encW l) .za K=(match gR .sl (encW l),gR .sl .za with
  | some b,some true=>pO .eql b K
  | _,_=>.no 5):=nr rfl
 rw [e2,ztk h];rfl
theorem ztl {z:Int} {K:AV->OP}:gU [(I 0),.za] [(0,1,I z)] K=K (.agg [I z,.za]):=nr rfl
def Zs (k:Nat) (z:Int):Prop:=z.natAbs<18446744073709551616 ^ k
theorem Zs.len {k:Nat} {z:Int} (h:Zs k z):(dg 18446744073709551616 z.natAbs).length<=k:=kW (by decide) h
theorem of85 {z:Int} (h : -9223372036854775808<=z/\z<=9223372036854775807):Pure Tryz.prog B 187 [I z] (λv=>IntV v z):=by
 refine zT λhh nx K H0 hK=>zN zP yD 100 λhf => ?_;rw [fK.go,fK.t3,zA,fK.zy];refine H0.alloc λp h1 nx1 H1 => ?_;rw [zA,fK.zx,ztl];refine H1.yx (l2:=[I z,.za]) (k:=0) rfl rfl rfl λh4 H4 => ?_;simp only [zE,zM];rw [fK.ret,H4.zk (k:=0) (n:=2) rfl rfl];exact hK _ _ _ _ _ H4 (zbw h).frz (zbw h)
abbrev D (m:Nat):AV:=I (m:Int)
def ve (l:List Nat):AV:=.lst 1 l.length (l.map D)
theorem zqv (l:List Nat):∀ v∈l.map D,fP v=true:=λv hv=>by obtain ⟨x,_,rfl⟩:=List.mem_map.1 hv;rfl
theorem kV (l:List Nat):fP (ve l)=true:=xS (zqv l)
theorem dGet {l:List Nat} {i x:Nat} (h:l[i]? = some x):(l.map D)[i]? = some (D x):=by rw [List.getElem?_map,h];rfl
theorem dLen {l:List Nat} {K:AV->OP}:sLen (ve l) K=K (I l.length):=yA ..
theorem dIx {l:List Nat} {i:Nat} {j:Int} {op:AV->OP} (hj:j=(i:Int)) (hi:i<l.length):zL 1 (ve l) (I j) op=op (.fp ((l.map D).drop (i*1))):=fO hj hi
theorem dLd {l:List Nat} {i x:Nat} {h:T Blk} {op:AV->OP} (hx:l[i]? = some x):zI (.fp ((l.map D).drop (i*1))) h op=op (D x):=ldL (dGet hx)
theorem Hp.letD {h0 h:T Blk} {nx:Pa} {L:List Ob} {id:Pa} {l:List Nat} {n:Nat} (H:Hp h0 h nx (.arr id (l.map D)::L)) (hn:l.length=n):∃ h',kO h' h/\Hp h0 h' nx L/\tC h' h (.sl id 0 n (some n) 1) (ve l):=by
 subst hn;exact ⟨_,zbl,H.zqr,qi.frz (H.own _ (Zaj ..)) (T.get_set_same _ _ _ _) (Zaf _) (by simp) (zqv l)⟩
theorem zx6 {l:List Nat} {i:Nat} {op:AV->OP} (hl:1<=l.length) (hi:i<=l.length):wV 1 (ve l) none (some (I (i:Int))) none op=op (ve (l.take i)):=by
 show (bif Nat.beq 1 1&&Nat.ble 1 l.length then (match bnd (some (I (i:Int))) l.length l.length with | none=>Out.no 17 | some h=>match bnd none h 0 with | none=>.no 17 | some q=>op (.lst 1 (h-q) (((l.map D).drop (q*1)).take ((h-q)*1)))) else .no 17)=_;rw [Zag hl];have:bnd (some (I (i:Int))) l.length l.length=some i:=by
  show (bif Nat.ble i l.length then some i else none)=_;rw [Zag hi];rfl
 rw [this];show op (.lst 1 (i-0) (((l.map D).drop (0*1)).take ((i-0)*1)))=_;unfold ve;rw [Zah,Zce hi,Zfv];simp
theorem Hp.ak {h0 h:T Blk} {nx:Pa} {L:List Ob} (H:Hp h0 h nx L) (e:Nat):Hp h0 h nx (.gro none e 0 []::L) :=
  ⟨H.keep,fun x hx=>by rcases List.mem_cons.1 hx with rfl | q;· exact ⟨rfl,rfl⟩
                       . exact H.own x q,λn hn=>H.off n (by simpa [Ob.names] using hn),by have:=H.nd;simpa [Ob.names] using this,H.fr⟩
theorem zen {l:List Nat} (hd:Dg 1000000000 l) (hl:l.length<=1000000):Pure Tryz.prog B 269 [ve l] (· = ve (dg 1000000000 (bv 1000000000 l))):=by
 refine zT λh nx K H0 hK=>zN zP yD 1000010 λhf => ?_;rw [gq.go,gq.t12,zA,gq.zy,zA,zJ];refine gq.t7_L (λm x0 h' nx'=>x0=ve (l.take m)/\m<=l.length/\bv 1000000000 (l.take m)=bv 1000000000 l/\Hp h h' nx' []) (m:=l.length) (by omega) ⟨by rw [Zcz],by omega,by rw [Zcz],H0⟩ ?_;rintro m z0 z2 h3 nx3 R ⟨rfl,hm,hb,H3⟩ hR;have fin:Nm (l.take m)->K (ve (l.take m)) h3 nx3=.ok True:=λhn=>hK _ _ _ _ _ H3 (zR (kV _)) (by rw [<- hb,<- cI (by decide) hd.take hn]);have hlen:(l.take m).length=m:=by rw [Zah];omega
 rw [gq.t6,zA,zA,gq.zx,gq.tX,gq.tY,dLen,dm,hlen];cases m with
 | zero =>
  rw [Zab (by omega)];simp only [jF];rw [gq.eF,gq.tK];simp only [jF,zZ];rw [zB,gq.v2,zD,zV,yC,zA,gq.rF];simp only [zE,zM];rw [gq.ret];exact fin (by simp [Nm])
 | succ k =>
  have e:l[k]? = some (l.getD k 0):=getD_some (by omega);have e':(l.take (k+1))[k]? = some (l.getD k 0):=by rw [List.getElem?_take_of_lt (by omega),e]
  rw [Zac (by omega)];simp only [yL];rw [dLen,hlen,dz (by omega),gq.eF,gq.tK];simp only [yL];rw [dIx (i:=k) (by omega) (by omega),dLd e',qx,zW,zB,gq.v2];by_cases d:l.getD k 0=0
  .rw [Zac (by omega),zC,zG,zJ,gq.rD,dLen,hlen,dz (by omega),show ((k+1:Nat):Int)-1=((k:Nat):Int) by omega,zx6 (by omega) (by omega),List.take_take,Zce (by omega)];refine hR k _ _ _ _ (by omega) ⟨rfl,by omega,?_,H3⟩;rw [vM e,d] at hb;simpa using hb
  .rw [Zab (by omega),zD,zV,yC,zA,gq.rF];simp only [zE,zM];rw [gq.ret];exact fin (zti e d)
def oL (z:Int):AV:=.agg [.bool (decide (z<0)),ve (dg 1000000000 z.natAbs)]
theorem zx7 {b:Bool} {l:List Nat} {K:AV->OP}:gU [(.bool false),.za] [(0,1,.bool b),(1,1,ve l)] K=K (.agg [.bool b,ve l]):=nr rfl
theorem dAgg {N:Pa->Prop} {O:AV->Prop} {hh:T Blk} {b:Bool} {l:List Nat}:Frz True N O hh (.agg [.bool b,ve l]) (.agg [.bool b,ve l]):=uAgg λv hv=>by
 simp only [Zaq,Zfy,or_false] at hv;rcases hv with rfl | rfl
 .rfl
 .exact kV l
theorem zeo {n:Nat} (h:n≠0):1<=(dg 1000000000 n).length:=by rw [kJ (by decide) h];simp
theorem xI {b:Bool} {l:List Nat} (hd:Dg 1000000000 l) (hl:l.length<=1000000):Pure Tryz.prog B 214 [.bool b,ve l] (· = oL (if b then -(bv 1000000000 l:Int) else (bv 1000000000 l:Int))):=by
 refine zT λh nx K H0 hK=>zN zP yD 100 λhf => ?_;rw [bq.go,bq.t5,zA,bq.zy];refine H0.alloc λp h1 nx1 H1 => ?_;rw [zA,bq.zx];refine zen hd hl _ _ _ _ ?_;rintro _ rfl _;rw [zA,bq.jb];have key:∀ c:Bool,c=(b&&decide (0<bv 1000000000 l))->(gU [(.bool false),.za] [(0,1,.bool c),(1,1,ve (dg 1000000000 (bv 1000000000 l)))] λv5=>zX 2 (.ptr p 0) v5 h1 nx1 λv6 h7 n8=>IR.run .ret (CS Tryz.prog B) 100 (fnO bq.res K) (zo bq.res K) (bq.fr (.bool b) (ve (dg 1000000000 (bv 1000000000 l))) (.ptr p 0)) h7 n8)=.ok True:=by
  intro c hc;rw [zx7];refine H1.yx (l2:=[.bool c,ve (dg 1000000000 (bv 1000000000 l))]) (k:=0) rfl rfl rfl λh2 H2 => ?_;simp only [zE,zM];rw [bq.ret,H2.zk (k:=0) (n:=2) rfl rfl];refine hK _ _ _ _ _ H2 dAgg ?_;unfold oL;subst hc;cases b with
  | false=>rw [if_neg (by decide),Zbq,Zab (show ¬ ((bv 1000000000 l:Int)<0) by omega)];rfl
  | true =>
   rw [if_pos rfl,Zeg,Zbq,Bool.true_and]
   congr 3
   exact decide_eq_decide.2 (by omega)
 cases b with
 | false =>
  simp only [jF,zZ];exact key _ rfl
 | true =>
  simp only [yL];rw [dLen,dm,zW];refine key _ ?_;rw [Bool.true_and];refine decide_eq_decide.2 ?_;rcases Zgl (bv 1000000000 l) with q | q
  .rw [q,j8];simp
  .have:=zeo (n:=bv 1000000000 l) (by omega);omega
theorem ztm {a b:List Nat} (ha:a.length<=1000000) (hb:b.length<=1000000):Pure Tryz.prog B 216 [ve a,ve b] (· = I (cmpW a b)):=by
 refine zT λh nx K H0 hK=>zN zP yD 1000010 λhf' => ?_;have ret:∀ {h1 nx1 L} {z:Int},Hp h h1 nx1 L->z=cmpW a b->K (I z) h1 nx1=.ok True:=λH e=>hK _ _ _ _ _ H (zR rfl) (by rw [e]);rw [yh.go,yh.t38,zA,yh.zy,zA,zA,yh.zx,dLen,dLen,fV,zB,yh.v4];by_cases c:a.length=b.length
 case neg =>
  rw [Zab (by omega),Zal,zC,zA,zA,yh.jb,dLen,dLen,jq,zB,yh.v5];by_cases d:a.length<b.length
  .rw [Zac (by omega),zC,zA,yh.dw];simp only [zE,zM];rw [yh.ret];exact ret H0 (by rw [cmpW,if_pos c,if_pos d])
  .rw [Zab (by omega),zD,zG,zA,yh.fU];simp only [zE,zM];rw [yh.ret];exact ret H0 (by rw [cmpW,if_pos c,if_neg d])
 rw [Zac (by omega),Zap,zD,zG,zA,zA,yh.ni,dLen,dz (by omega),zJ];refine yh.zfi (λm x3 h' nx'=>∃ k:Nat,x3=I ((k:Int)-1)/\m=k/\k<=a.length/\cmpT a b k=cmpT a b a.length/\Hp h h' nx' []) (m:=a.length) (by omega) ⟨a.length,rfl,rfl,by omega,rfl,H0⟩ ?_;rintro m z2 z3 z6 z7 z8 h3 nx3 R ⟨k,rfl,rfl,hk,hc,H3⟩ hR;rw [yh.t30,zA,zA,yh.rM,fI];cases m with
 | zero =>
  rw [Zab (by omega),zB,yh.v6,zD,zV,yC,zA,yh.zfj];simp only [zE,zM];rw [yh.ret];exact ret H3 (by rw [cmpW,if_neg (λq=>q c),<- hc];rfl)
 | succ k =>
  have ea:=getD_some (l:=a) (k:=k) (by omega);have eb:=getD_some (l:=b) (k:=k) (by omega);rw [cmpT] at hc;rw [Zac (by omega),zB,yh.v6,zC,zG,zA,zJ,zA,zA,yh.au,dIx (i:=k) (by omega) (by omega),dLd ea,dIx (i:=k) (by omega) (by omega),dLd eb,jq,zB,yh.v7];by_cases e:a.getD k 0<b.getD k 0
  .rw [if_neg (by omega),if_pos e] at hc;rw [Zac (by omega),zC,zA,yh.sW];simp only [zE,vN,zM];rw [yh.ret];exact ret H3 (by rw [cmpW,if_neg (λq=>q c),<- hc])
  rw [Zab (by omega),zD,zG,zA,yh.zfh,dIx (i:=k) (by omega) (by omega),dLd ea,dIx (i:=k) (by omega) (by omega),dLd eb,dm,zB,yh.v8];by_cases d:a.getD k 0=b.getD k 0
  .rw [if_pos d] at hc;rw [Zab (by omega),zD,zG,yh.zaa,dz (by omega)];exact hR k _ _ _ _ _ _ _ (by omega) ⟨k,by congr 1;omega,rfl,by omega,hc,H3⟩
  .rw [if_neg d,if_neg e] at hc;rw [Zac (by omega),zC,zA,yh.aQ];simp only [zE,vN,zM];rw [yh.ret];exact ret H3 (by rw [cmpW,if_neg (λq=>q c),<- hc])
theorem eG.two {s w:AV} {z:Int} (h:eG s w z):(s=I z/\w=.za /\ -9223372036854775808<=z/\z<=9223372036854775807/\∀ K:AV->OP,ze .eql (.nil .sl) w .za K=K (.bool true))\/(z≠0/\∀ K:AV->OP,ze .eql (.nil .sl) w .za K=K (.bool false)):=by
 rcases h with ⟨rfl,rfl,h1,h2⟩ | ⟨n,rfl,rfl,hs,hb⟩
 .exact .inl ⟨rfl,rfl,h1,h2,λ_=>zx4⟩
 .exact .inr ⟨by omega,λ_=>zx5 (qba (by omega))⟩
theorem zg2 {a b:Int} {K:AV->OP} (ha : -9223372036854775808<=a/\a<=9223372036854775807) (hb:1<=b):ze .quo .int (I a) (I b) K=K (I (a.tdiv b)):=by
 have e:ze .quo .int (I a) (I b) K=(bif ieq b 0 then Out.no 5 else vz (IntKind.i64.wrap (a.tdiv b)) λz=>K (.int .i64 z)):=rfl;have h0:ieq b 0=false:=by rw [xA];exact Zab (by omega)
 rw [e,h0,cond_false,uR,Go.IntWalk.i64_quo' a b ⟨ha.1,ha.2,hb⟩]
theorem zg3 {a b:Int} {K:AV->OP} (hb:1<=b):ze .rem .int (I a) (I b) K=K (I (a.tmod b)):=by
 have e:ze .rem .int (I a) (I b) K=(bif ieq b 0 then Out.no 5 else vz (a.tmod b) λz=>K (.int .i64 z)):=rfl;have h0:ieq b 0=false:=by rw [xA];exact Zab (by omega)
 rw [e,h0,cond_false,uR]
theorem Hp.oU {h0 h:T Blk} {nx:Pa} {L:List Ob} {o:Option Pa} {n bytes:Nat} {l:List AV} {z v:AV} {K:Kw Prop} (H:Hp h0 h nx (.gro o 1 n l::L)) (hn:n+1<=1000000) (hb:bytes*1000000<=70368744177664) (hv:v.cells=some [v]) (hs:uz v=true)
  (hK:∀ o' h' nx',Hp h0 h' nx' (.gro o' 1 (n+1) (l++[v])::L)->K (uy o' 1 (n+1)) h' nx'=.ok True) :
  (jI 1 1 [z] [(0,1,v)] h nx λv2 h3 n4=>sZ 1 bytes (uy o 1 n) v2 h3 n4 K)=.ok True:=by
 have fill:gL (nW 1 [z]) [(0,1,v)]=some [v]:=by simp only [gL,hv];rfl
 refine H.cu (l:=[v]) fill λid h1 n1 H1 => ?_;refine H1.appN (k:=1) (new:=[v]) (c:=1) rfl ((H1.own _ (Zaj ..)).rd (n:=1) (e:=1) rfl) rfl (by simp [hs]) (by omega) hb hn λo' h2 n2 _ H2 => ?_;exact hK o' h2 n2 (Hp.drop H2)
theorem Hp.zkr {h0 h:T Blk} {nx:Pa} {L:List Ob} {o:Option Pa} {n:Nat} {Z:List Nat} (H:Hp h0 h nx (.gro o 1 n (Z.map D)::L)) (hn:Z.length=n):∃ h',kO h' h/\Hp h0 h' nx L/\tC h' h (uy o 1 n) (ve Z):=by
 obtain ⟨h',a,b,c⟩:=H.zi4 (zqv Z);exact ⟨h',a,b,by rw [ve,hn];exact c⟩
theorem sMkD {n:Nat} {x:Int} {h0 h:T Blk} {nx:Pa} {L:List Ob} {K:Kw Prop} (H:Hp h0 h nx L) (hx:x=(n:Int)) (hn:n<=1000000)
  (hK:∀ id h' nx',Hp h0 h' nx' (.arr id ((List.replicate n 0).map D)::L)->K (.sl id 0 n (some n) 1) h' nx'=.ok True):xJ 1 8 [(I 0)] (I x) (I x) h nx K=.ok True :=
 H.mk1 n hx hx hn (by omega) λid h' nx' H'=>hK id h' nx' (by rw [List.map_replicate];exact H')
theorem zg4 {l:List Nat} {d:Nat} (hd:1<=d) (hdN:d<1000000000) (hl:Dg 1000000000 l) (hs:l.length<=100000):Pure Tryz.prog B 268 [ve l,D d] (· = .tup [ve (dg 1000000000 (bv 1000000000 l / d)),D (bv 1000000000 l%d)]):=by
 refine zT λh nx K H0 hK=>zN zP yD 1000010 λhf => ?_;rw [jd.go,jd.t24,zA,jd.zy,zA,jd.zx,dLen];refine sMkD (n:=l.length) H0 rfl (by omega) λid h1 nx1 H1 => ?_;rw [zA,jd.jb,zA,zA,jd.dw,dLen,dz (by omega),zJ];refine jd.zab (λm x5 x6 h' nx'=>∃ (r:Nat) (Q:List Nat),x5=D r/\x6=I ((m:Int)-1)/\m<=l.length/\Q.length=l.length-m/\Dg 1000000000 Q/\r<d/\bv 1000000000 (l.drop m)=bv 1000000000 Q*d+r/\Hp h h' nx' [.arr id ((List.replicate m 0++Q).map D)]) (m:=l.length) (by omega) ⟨0,[],rfl,rfl,by omega,by simp,λ_ h=>by simp at h,by omega,by simp [bv],by simpa using H1⟩ ?_;rintro m z5 z6 z7 z8 h3 nx3 R ⟨r,Q,rfl,rfl,hm,hQ,hdQ,hr,hv,H3⟩ hR;rw [jd.t15,zA,zA,jd.rD,fI];cases m with
 | zero =>
  rw [Zab (by omega),zB,jd.v8,zD,zV,yC,zA,jd.rX];simp only [List.replicate_zero,Zbo] at H3;obtain ⟨h5,hkp,H5,hF⟩:=H3.letD (n:=l.length) (by omega);refine dQ hkp (.cons hF .nil) ?_;refine zen hdQ (by omega) _ _ _ _ ?_;rintro _ rfl _;simp only [zE,zM];rw [jd.ret];refine hK _ _ _ _ _ H5 (jP (zR (kV _)) (zR rfl)) ?_;rw [Zdg] at hv;obtain ⟨a1,a2⟩:=zx0 hv hr;rw [a1,a2]
 | succ k =>
  have ea:=getD_some (l:=l) (k:=k) (by omega);have haW:=mU (k:=k) (by decide) hl;have e0:l.drop k=l.getD k 0::l.drop (k+1):=by
   have ea:=ea;rw [List.getElem?_eq_getElem (by omega)] at ea;rw [Zbj (by omega),Option.some.inj ea]
  generalize hX:l.getD k 0=x at *
  have hdm:r*1000000000+x=(r*1000000000+x) / d*d+(r*1000000000+x)%d:=by
   rw [Zcm _ d];exact (Nat.div_add_mod _ _).symm
  have hqW:(r*1000000000+x) / d<1000000000:=by
   rw [Nat.div_lt_iff_lt_mul (by omega)];have:(r+1)*1000000000<=d*1000000000:=Zax _ hr;omega
  have hrd:(r*1000000000+x)%d<d:=Zed _ (by omega);have eq1:((r:Int)*1000000000+(x:Int)).tdiv (d:Int)=(((r*1000000000+x) / d:Nat):Int):=by rw [Zez (by omega)];simp
  have eq2:((r:Int)*1000000000+(x:Int)).tmod (d:Int)=(((r*1000000000+x)%d:Nat):Int):=by rw [Zfa (by omega)];simp
  rw [Zac (by omega),zB,jd.v8,zC,zG,zA,zJ,zA,jd.fU,rC (by omega),dIx (i:=k) (by omega) (by omega),dLd ea,um (by omega),zA,jd.fE];rw [zg2 (by omega) (by omega),eq1,sIx (i:=k) (by omega) (by omega)];rw [zqt] at H3;refine H3.store (k:=0) rfl (by simp) rfl λh4 H4 => ?_;rw [jd.rF,zg3 (by omega),eq2]
  generalize hQ':(r*1000000000+x) / d=q at *
  simp only [Zgm] at H4;rw [Zbp,Zea,dT (by simp)] at H4;rw [jd.rM,dz (by omega)];refine hR k _ _ _ _ _ _ (by omega) ⟨_,q::Q,rfl,by congr 1;omega,by omega,by simp;omega,?_,hrd,?_,by simpa using H4⟩
  .exact (Dg.one hqW).append hdQ
  .rw [e0,bv,bv];exact zqs hv hdm
theorem Hp.appE {h0 h:T Blk} {nx e:Pa} {L:List Ob} {K:Kw Prop} {w:AV} {new:List AV} {c bytes:Nat} (H:Hp h0 h nx (.arr e []::L)) (hr:∀ (no:OP) (K':List AV->Nat->OP),wX w h no K'=K' new c) (hl:new.length=c) (hs:new.all uz=true) (hb:bytes*1000000<=70368744177664) (hc1:1<=c) (hc:c<=1000000)
  (hK:∀ id h' nx',Hp h0 h' nx' (.gro (some id) 1 c new::L)->K (.sl id 0 c none 1) h' nx'=.ok True) :
  sZ 1 bytes (.sl e 0 0 (some 0) 1) w h nx K=.ok True:=by
 unfold sZ appA;rw [hr];have hcc:(Nat.ble (bytes*1000000) 70368744177664&&Nat.beq new.length (c*1)&&Nat.ble 1 1&&new.all uz)=true:=by
  simp only [Zak,hs,and_true];exact ⟨⟨Zag hb,by rw [hl,Zco];exact Zbv _⟩,rfl⟩
 rw [hcc,cond_true];obtain ⟨op,t,g1,g2⟩:qi h e []:=H.own _ (Zaj ..);show (bif Nat.beq 1 1&&Nat.ble (0+c) 1000000 then qc (T.get .no e h) _ (.no 35) else .no 36)=_;rw [g1,Zag (by omega)];show (bif Nat.ble (0+c) 0 then (bif Nat.ble (0+(0+c)*1) 0 then wJ e 0 0 (some 0) 1 op 0 t new c h nx _ else .no 32) else wI 0 0 1 t new c h nx _)=_;rw [bleF (by omega),cond_false];unfold wI;rw [yM,y3,Zbl,show yU t 0 (0*1)++new=new from rfl];refine hK nx _ _ (Hp.new (x:=.gro (some nx) 1 c new) H.drop rfl λh' q => ?_);refine ⟨_,by rw [q,hl,Zco],by rw [hl,Zco],?_⟩;have:=qY new;rw [hl] at this;rw [Zco];exact this
theorem Hp.oM {h0 h:T Blk} {nx id:Pa} {L:List Ob} {n:Nat} {l:List AV} (H:Hp h0 h nx (.gro (some id) 1 n l::L)):Hp h0 h nx (.arr id l::L):=by
 obtain ⟨t,h1,h2,h3⟩:=H.own _ (Zaj ..);rw [Zco] at h1 h2 h3;refine ⟨H.keep,λx hx => ?_,λn hn=>H.off n (by simpa [Ob.names] using hn),by have:=H.nd;simpa [Ob.names] using this,H.fr⟩;rcases List.mem_cons.1 hx with rfl | q
 .exact ⟨true,t,by rw [h1,h2],by rw [h2];exact h3⟩
 .exact H.own x (Zao _ q)
theorem qbb {id:Pa} {n i:Nat} {op:AV->OP} (hi:i<=n):wV 1 (.sl id 0 n none 1) none (some (I (i:Int))) none op=op (.sl id 0 i none 1):=by
 have e:wV 1 (.sl id 0 n none 1) none (some (I (i:Int))) none op=(match bnd (some (I (i:Int))) n n with
  | none=>Out.no 17
  | some h=>op (.sl id 0 h none 1)):=rfl
 rw [e,xV hi]
def S9 (n:Nat):Prop:=(dg 1000000000 n).length<=99990
theorem zbx {b d:Nat} (hb:2<=b) (h:(dg b d).length=1):dg b d=[d]/\d<b:=by
 have od:=qG hb d;have e1:dg b d=[d]:=by
  cases hdd:dg b d with
  | nil=>rw [hdd] at h;cases h
  | cons x l =>
   rw [hdd] at h;have:l=[]:=by cases l with
    | nil=>rfl
    | cons y l=>simp at h
   subst this;have:=od.1;rw [hdd] at this;simp [bv] at this;rw [this]
 exact ⟨e1,od.2.1 d (by rw [e1];simp)⟩
theorem cH {a d:Nat} (hd:1<=d) (hdN:d<1000000000) (ha:S9 a) (hds:S9 d):Pure Tryz.prog B 213 [ve (dg 1000000000 a),ve (dg 1000000000 d)] (· = .tup [ve (dg 1000000000 (a / d)),ve (dg 1000000000 (a%d))]):=by
 refine zT λh nx K H0 hK=>zN zP yD 1000010 λhf => ?_;have oa:=qG (b:=1000000000) (by decide) a;have od:=qG (b:=1000000000) (by decide) d;unfold S9 at ha hds;rw [qh.go,qh.t109,zA,qh.zy,zA,zA,qh.zx];refine ztm (by omega) (by omega) _ _ _ _ ?_;rintro _ rfl _;rw [ztj (by decide),jq,zB,qh.v21];by_cases c:a<d
 .rw [Zac (by rw [cmpN,if_pos c];decide),zC,zA,qh.jb];simp only [zE,zM];rw [qh.ret];refine hK _ _ _ _ _ H0 (jP (.zcx 1) (zR (kV _))) ?_;rw [Zej c,Zcg c,j8];rfl
 rw [Zab (by rw [cmpN,if_neg c];split <;> decide),zD,zG,zA,zA,qh.qg,dLen,qx,zB,qh.v22];have hla:(dg 1000000000 d).length<=(dg 1000000000 a).length:=by
  rcases Zdb (dg 1000000000 a).length (dg 1000000000 d).length with q | q
  .have:=wS (b:=1000000000) (by decide) q;omega
  .exact q
 have hld1:1<=(dg 1000000000 d).length:=zeo (by omega);by_cases c1:(dg 1000000000 d).length=1
 .obtain ⟨e1,hdW⟩:=zbx (b:=1000000000) (by decide) c1;rw [Zac (by omega),zC,e1,zA,qh.fU,dIx (l:=[d]) (i:=0) (j:=0) rfl (by simp),dLd (x:=d) rfl];refine zg4 hd hdW oa.2.1 (by omega) _ _ _ _ ?_;rintro _ rfl _;rw [jB,jC,oa.1,zA,qh.fE];have hml:=Zed a (show 0<d by omega);refine H0.cu (l:=[D (a%d)]) rfl λtb h1 nx1 H1 => ?_;obtain ⟨h2,hkp,H2,hF⟩:=H1.letD (l:=[a%d]) (n:=1) rfl;refine dQ hkp (.cons hF .nil) ?_;refine zen (Dg.one (by omega)) (by simp) _ _ _ _ ?_;rintro _ rfl _;simp only [zE,zM];rw [qh.ret];exact hK _ _ _ _ _ H2 (jP (zR (kV _)) (zR (kV _))) (by simp [bv])
 exact absurd (by rw [kJ (by decide) (by omega),Zej hdN,j8];rfl) c1
def Z9 (k:Nat) (z:Int):Prop:=z.natAbs<1000000000 ^ k
theorem Z9.len {k:Nat} {z:Int} (h:Z9 k z):(dg 1000000000 z.natAbs).length<=k:=kW (by decide) h
theorem Z9.mono {k m:Nat} {z:Int} (h:Z9 k z) (hkm:k<=m):Z9 m z:=Zcj h (Zdh (by decide) hkm)
theorem Z9.mul {k m:Nat} {a b:Int} (ha:Z9 k a) (hb:Z9 m b):Z9 (k+m) (a*b):=by
 unfold Z9 at *
 rw [Zcc,Nat.pow_add];exact Zdv ha hb
theorem Z9.add {k:Nat} {a b:Int} (ha:Z9 k a) (hb:Z9 k b):Z9 (k+1) (a+b):=by
 unfold Z9 at *
 have h1:=Zeb a b;have h2:1000000000 ^ (k+1)=1000000000 ^ k*1000000000:=Zei ..;omega
theorem pX {b x y:Nat} (hb:2<=b) (h:x<=y):(dg b x).length<=(dg b y).length:=by
 rcases Zdb (dg b y).length (dg b x).length with q | q
 .have:=wS (b:=b) hb q;omega
 .exact q
theorem vE (z:Int):oL z=.agg [.bool (decide (z<0)),ve (dg 1000000000 z.natAbs)]:=rfl
theorem zg5 {a:Int} {k:Nat} (hk:k<=90000) (ha:Z9 k a):Pure Tryz.prog B 212 [oL a] (· = oL (-a)):=by
 have oa:=qG (b:=1000000000) (by decide) a.natAbs;have la:=ha.len;rw [vE];refine zT λh nx K H0 hK=>zN zP yD 100 λhf => ?_;rw [nk.go,nk.t3,zA,nk.zy];refine H0.box (l:=[.bool (decide (a<0)),ve (dg 1000000000 a.natAbs)]) rfl λpa h1 nx1 H1 => ?_;refine H1.alloc λp h3 nx3 H3 => ?_;rw [zA,nk.zx,sFx,H3.load (k:=1) (i:=0+0) rfl rfl,yT,sFx,H3.load (k:=1) (i:=0+1) rfl rfl];refine xI oa.2.1 (by omega) _ _ _ _ ?_;rintro _ rfl _;have e:(if !decide (a<0) then -(bv 1000000000 (dg 1000000000 a.natAbs):Int) else (bv 1000000000 (dg 1000000000 a.natAbs):Int)) = -a:=by
  rw [oa.1];by_cases d:a<0
  .rw [Zac d,if_neg (by decide)];omega
  .rw [Zab d,if_pos (by decide)];omega
 rw [e];refine H3.yx (l2:=[.bool (decide (-a<0)),ve (dg 1000000000 (-a).natAbs)]) (k:=0) rfl rfl rfl λh4 H4 => ?_;simp only [zE,zM];rw [nk.ret,H4.zk (k:=0) (n:=2) rfl rfl];exact hK _ _ _ _ _ H4 dAgg rfl
theorem zmp {a b:Nat} (hbN:b<1000000000) (ha:S9 a) (hb:S9 b):Pure Tryz.prog B 208 [ve (dg 1000000000 a),ve (dg 1000000000 b)] (· = ve (dg 1000000000 (Nat.gcd a b))):=by
 refine zT λh nx K H0 hK=>zN zP yD (b+100) λhf => ?_;rw [kz.go,kz.t14,zA,kz.zy,zA,zJ];refine kz.t9_L (λm x0 x1 h' nx'=>∃ x y:Nat,x0=ve (dg 1000000000 x)/\x1=ve (dg 1000000000 y)/\m=y/\y<1000000000/\S9 x/\S9 y/\Nat.gcd x y=Nat.gcd a b/\h'=h/\nx'=nx) (m:=b) (by omega) ⟨a,b,rfl,rfl,rfl,hbN,ha,hb,rfl,rfl,rfl⟩ ?_;rintro m z0 z1 z3 z4 h3 nx3 R ⟨x,y,rfl,rfl,rfl,hmN,hx,hy,hg,rfl,rfl⟩ hR;rw [kz.t8,zA,zA,kz.zx,dLen,dm];by_cases c:m=0
 .subst c;rw [Zgn] at hg;rw [j8,Zab (by simp),zB,kz.v4,zD,zV,yC,zA,kz.pu];simp only [zE,zM];rw [kz.ret,hg];exact hK _ _ _ _ _ H0 (zR (kV _)) rfl
 .have hl:=zeo c;rw [Zac (by omega),zB,kz.v4,zC,zG,zJ,zA,kz.rD];refine cH (by omega) hmN hx hy _ _ _ _ ?_;rintro _ rfl _;have hlt:=Zed x (show 0<m by omega);rw [jB,jC,kz.rE];refine hR (x%m) _ _ _ _ _ _ hlt ⟨m,x%m,rfl,rfl,rfl,by omega,hy,Zay (pX (by decide) (by omega)) hy,?_,rfl,rfl⟩;rw [<- hg,Zfk x m,Nat.gcd_rec m x,Zfk]
theorem zx8 {a b:Nat} (ha:a<=9223372036854775807) (hb:b<=9223372036854775807):Pure Tryz.prog B 210 [I (a:Int),I (b:Int)] (· = I ((Nat.gcd a b:Nat):Int)):=by
 refine zT λh nx K H0 hK=>zN zP yD (b+100) λhf => ?_;rw [qp.go,qp.t12,zA,qp.zy,zA,zJ];refine qp.t7_L (λm x0 x1 h' nx'=>∃ x y:Nat,x0=I (x:Int)/\x1=I (y:Int)/\m=y/\y<=9223372036854775807/\Nat.gcd x y=Nat.gcd a b/\h'=h/\nx'=nx) (m:=b) (by omega) ⟨a,b,rfl,rfl,rfl,hb,rfl,rfl,rfl⟩ ?_;rintro m z0 z1 z3 h3 nx3 R ⟨x,y,rfl,rfl,rfl,hy,hg,rfl,rfl⟩ hR;rw [qp.t6,zA,zA,qp.zx,dm];by_cases c:m=0
 .subst c;rw [Zgn] at hg;rw [Zab (by omega),zB,qp.v3,zD,zV,yC,zA,qp.rF];simp only [zE,zM];rw [qp.ret,hg];exact hK _ _ _ _ _ H0 (zR rfl) rfl
 .have hlt:=Zed x (show 0<m by omega);rw [Zac (by omega),zB,qp.v3,zC,zG,zJ,qp.rD,zg3 (by omega),show (x:Int).tmod (m:Int)=((x%m:Nat):Int) by rw [Zfa (by omega)];simp];refine hR (x%m) _ _ _ _ _ hlt ⟨m,x%m,rfl,rfl,rfl,by omega,?_,rfl,rfl⟩;rw [<- hg,Zfk x m,Nat.gcd_rec m x,Zfk]
theorem zg6 {z:Int} (hz : -9223372036854775808<=z/\z<=9223372036854775807):Pure Tryz.prog B 134 [I z] (· = oL z):=by
 refine zT λh nx K H0 hK=>zN zP yD 9223372036854775900 λhf => ?_;have hN:9223372036854775808<9223372036854775900:=by decide
 generalize 9223372036854775900=N at hN ⊢
 rw [yu.go,yu.t25,zA,yu.zy];refine H0.alloc λp h1 nx1 H1 => ?_;rw [zA,yu.zx,zA,yu.jb,jq,zA,zJ];refine yu.zyp (λm x0 x2 h' nx'=>∃ (y:Int) (i:Nat) (Z:List Nat) (o:Option Pa),x0=I y/\x2=uy o 1 i/\m=y.natAbs/\m<=9223372036854775808 /\ -9223372036854775808<=y/\y<=9223372036854775807/\Z.length=i/\Dg 1000000000 Z/\bv 1000000000 Z+1000000000 ^ i*m=z.natAbs/\i<=3/\m*1000000000 ^ i<=9223372036854775808/\Hp h h' nx' [.gro o 1 i (Z.map D),.arr p [.bool false,.za]]) (m:=z.natAbs) (by omega) ⟨z,0,[],none,rfl,rfl,rfl,by omega,hz.1,hz.2,rfl,λ_ h=>by simp at h,by simp [bv],by omega,by simp;omega,H1.ak 1⟩ ?_;rintro m z0 z2 z4 z5 z6 h3 nx3 R ⟨y,i,Z,o,rfl,rfl,rfl,hm,hy1,hy2,hZ,hd,hs,hi3,hb,H3⟩ hR;rw [yu.t17,zA,zA,yu.dw,fV];by_cases c:y=0
 .subst c;simp only [Int.natAbs_zero,Nat.mul_zero,Zeo] at hs;rw [Zac rfl,Zap,zB,yu.v5,zD,zV,yC,yu.t21,zA,yu.aD];obtain ⟨h5,hkp,H5,hF⟩:=H3.zkr hZ;refine dQ hkp (.cons (.bool _) (.cons hF .nil)) ?_;refine xI hd (by omega) _ _ _ _ ?_;rintro _ rfl _;have e:(if decide (z<0) then -(bv 1000000000 Z:Int) else (bv 1000000000 Z:Int))=z:=by
   rw [hs];by_cases d:z<0
   .rw [Zac d,if_pos rfl];omega
   .rw [Zab d,if_neg (by decide)];omega
  rw [e];refine H5.yx (l2:=[.bool (decide (z<0)),ve (dg 1000000000 z.natAbs)]) (k:=0) rfl rfl rfl λh4 H4 => ?_;simp only [zE,zM];rw [yu.ret,H4.zk (k:=0) (n:=2) rfl rfl];exact hK _ _ _ _ _ H4 dAgg rfl
 .have i2:i<=2:=by
   rcases Zdb 2 i with q | q
   .exfalso
    have e:i=3:=by omega
    subst e;have:1*1000000000 ^ 3<=y.natAbs*1000000000 ^ 3:=Zax _ (by omega);omega
   .exact q
  have et:(y.tmod 1000000000).natAbs=y.natAbs%1000000000:=by rw [Int.natAbs_tmod];rfl
  have eq:(y.tdiv 1000000000).natAbs=y.natAbs / 1000000000:=by rw [Int.natAbs_tdiv];rfl
  have hml:=Zed y.natAbs (show 0<1000000000 by decide);have hdv:y.natAbs / 1000000000<y.natAbs:=Nat.div_lt_self (by omega) (by decide);have hmd:=Nat.mod_add_div y.natAbs 1000000000;have fin:∀ (z5 z6:AV) (w:Int),w=((y.natAbs%1000000000:Nat):Int)->yu.t13.run (CS Tryz.prog B) N (((fnO yu.res K).blk 0 (yu.t21.run (CS Tryz.prog B) N (fnO yu.res K) (zo yu.res K))).blk 1 R) R (yu.fr (I y) (.ptr p 0) (uy o 1 i) (.bool (decide (z<0))) (I w) z5 z6) h3 nx3=.ok True:=by
   rintro z5 z6 _ rfl;rw [yu.t13,zA,yu.pu];refine H3.oU (v:=D (y.natAbs%1000000000)) (by omega) (by decide) rfl rfl λo' h4 n4 H4 => ?_;rw [yu.ni,zg2 ⟨hy1,hy2⟩ (by omega)];refine hR _ _ _ _ _ _ _ _ (by rw [eq];exact hdv) ⟨y.tdiv 1000000000,i+1,Z++[y.natAbs%1000000000],o',rfl,rfl,rfl,by omega,by omega,by omega,by simp [hZ],hd.append (Dg.one hml),?_,by omega,?_,by rw [Zbp];exact H4⟩
   .rw [eq,fA,hZ,Zei,Zda,Zey,<- Zem,hmd];exact hs
   .rw [eq,Zei,Zcm (1000000000 ^ i),<- Zey];exact Zay (Zax _ (by omega)) hb
  rw [Zab c,Zal,zB,yu.v5,zC,zG,zJ,zA,yu.qg,zg3 (by omega),zA,zA,yu.fU,jq,zB,yu.v6];by_cases d:y.tmod 1000000000<0
  .rw [Zac d,zC,yu.fE,dz (by omega)];exact fin _ _ _ (by omega)
  .rw [Zab d,zD,zG];exact fin _ _ _ (by omega)
theorem tT (s:List UInt8) {K:AV->OP}:kQ (.str s) K=K (I s.length):=by
 show (mh s.length λn=>K (.int .i64 (.ofNat n)))=_;rw [y3];rfl
theorem tCat {a b:List UInt8} {K:AV->OP} (h:a.length+b.length<=1000000):ze .add .str (.str a) (.str b) K=K (.str (a++b)):=by
 show (bif Nat.ble (a.length+b.length) 1000000 then K (.str (a++b)) else .no 5)=_;rw [Zag h];rfl
theorem tSub {s:List UInt8} {a b:Nat} {x y:Int} {K:AV->OP} (hx:x=(a:Int)) (hy:y=(b:Int)) (hab:a<=b) (hb:b<=s.length):uJ (.str s) (some (I x)) (some (I y)) K=K (.str ((s.drop a).take (b-a))):=by
 subst hx;subst hy
 show (match bnd (some (I (b:Int))) s.length s.length with
   | none=>Out.no 18
   | some h=>match bnd (some (I (a:Int))) h 0 with
    | none=>.no 18
    | some l=>K (.str ((s.drop l).take (h-l))))=_
 rw [xV hb]
 dsimp only
 rw [xV hab]
theorem zby {s:List UInt8} {a:Nat} {x:Int} {K:AV->OP} (hx:x=(a:Int)) (ha:a<=s.length):uJ (.str s) (some (I x)) none K=K (.str (s.drop a)):=by
 subst hx
 show (match bnd (some (I (a:Int))) s.length 0 with
    | none=>Out.no 18
    | some l=>K (.str ((s.drop l).take (s.length-l))))=_
 rw [xV ha]
 dsimp only
 rw [Zam (by rw [Zch];omega)]
theorem tTo {s:List UInt8} {b:Nat} {y:Int} {K:AV->OP} (hy:y=(b:Int)) (hb:b<=s.length):uJ (.str s) none (some (I y)) K=K (.str (s.take b)):=by
 subst hy
 show (match bnd (some (I (b:Int))) s.length s.length with
   | none=>Out.no 18
   | some h=>K (.str ((s.drop 0).take (h-0))))=_
 rw [xV hb];rfl
def dch (x:Nat):UInt8:=UInt8.ofNat (48+x)
def rU (n w:Nat):List Nat:=dg 10 n++List.replicate (w-(dg 10 n).length) 0
def vg (n w:Nat):List UInt8:=(rU n w).reverse.map dch
theorem ztn:∀ n<10,(([48,49,50,51,52,53,54,55,56,57]:List UInt8).drop n).take 1=[dch n]:=by decide +kernel
theorem zmq {y w:Nat} (h:0<y\/0<w):rU y w=y%10::rU (y / 10) (w-1):=by
 unfold rU;rcases Zgl y with e | e
 .subst e;obtain ⟨v,rfl⟩:∃ v,w=v+1:=⟨w-1,by omega⟩;rw [Nat.zero_div,j8]
  rfl
 .rw [kJ (by decide) (by omega),Zbx,Zbd,show w-((dg 10 (y / 10)).length+1)=w-1-(dg 10 (y / 10)).length by omega]
theorem zmr:rU 0 0=[]:=by unfold rU;rw [j8];rfl
theorem zg7 {n w:Nat} (hn:n<10 ^ 19) (hw:w<=19):(rU n w).length<=19:=by
 have:=kW (b:=10) (by decide) hn;unfold rU;rw [Zae,Zba];omega
theorem vI {n w:Nat} (hn:n<=9223372036854775807) (hw:w<=19):Pure Tryz.prog B 211 [I (n:Int),I (w:Int)] (· = .str (vg n w)):=by
 refine zT λh nx K H0 hK=>zN zP yD (n+w+10) λhf => ?_;rw [jc.go,jc.t16,zA,jc.zy,zA,jc.zx,zA,zJ];refine jc.znd (λm x0 x3 h' nx'=>∃ (y:Nat) (A:List Nat),x0=I (y:Int)/\x3=.str (A.reverse.map dch)/\m=y+(w-A.length)/\y<=9223372036854775807/\rU n w=A++rU y (w-A.length)/\h'=h/\nx'=nx) (m:=n+w) (by omega) ⟨n,[],rfl,rfl,rfl,hn,rfl,rfl,rfl⟩ ?_;rintro m z0 z3 z4 h3 nx3 R ⟨y,A,rfl,rfl,hm,hy,he,rfl,rfl⟩ hR;have hlen:=zg7 (n:=n) (w:=w) (by omega) hw;have hAl:A.length<=19:=by
  have:=congrArg List.length he;rw [Zae] at this;omega
 have go:0<y\/0<w-A.length->jc.t3.run (CS Tryz.prog B) (n+w+10) ((fnO jc.res K).blk 0 (jc.t13.run (CS Tryz.prog B) (n+w+10) (fnO jc.res K) (zo jc.res K))) (jc.t8.run (CS Tryz.prog B) (n+w+10) ((fnO jc.res K).blk 0 (jc.t13.run (CS Tryz.prog B) (n+w+10) (fnO jc.res K) (zo jc.res K))) R) (jc.fr (I (y:Int)) (I (w:Int)) (.str []) (.str (A.reverse.map dch)) (.bool true)) h3 nx3=.ok True:=by
  intro hp;have hst:=zmq hp;rw [hst] at he;have e1:(y:Int).tmod 10=((y%10:Nat):Int):=by rw [Zfa (by omega)];omega
  have e2:(y:Int).tdiv 10=((y / 10:Nat):Int):=by rw [Zez (by omega)];omega
  have hA1:A.length<=18:=by
   have:=congrArg List.length he;rw [Zae,Zbd] at this;omega
  rw [jc.t3,zB,jc.v4,zC,zG,jc.t8,zJ,zA,jc.rE,zg3 (by omega),e1,zg3 (by omega),e1,um (by omega),tSub (a:=y%10) (b:=y%10+1) rfl (by omega) (by omega) (by simp;omega),Zcp,ztn _ (Zed _ (by decide)),tCat (by simp;omega),jc.qg,zg2 (by omega) (by omega),e2];refine hR (y / 10+(w-(A.length+1))) _ _ _ _ _ (by omega) ⟨y / 10,A++[y%10],rfl,by simp,by rw [Zae];rfl,by omega,by rw [he,Zbu];simp [Nat.sub_sub],rfl,rfl⟩
 rw [jc.t9,zA,zA,jc.jb,jc.r2_0,jc.zwi,dm];by_cases c:0<y
 .rw [Zac (by omega)];simp only [jM,vU,zW];exact go (.inl c)
 rw [Zab (by omega)];simp only [y4];rw [tT,jq];simp only [zZ];by_cases d:A.length<w
 .rw [Zac (by simp;omega)];exact go (.inr (by omega))
 obtain rfl:y=0:=by omega
 rw [show w-A.length=0 by omega,zmr,Zbi] at he;rw [Zab (by simp;omega),jc.t3,zB,jc.v4,zD,zV,yC,jc.t13,zA,jc.ni];simp only [zE,zM];rw [jc.ret];exact hK _ _ _ _ _ H0 (zR rfl) (by rw [vg,he])
theorem zg8 (b:Nat):∀ k,bv b (List.replicate k 0)=0
 | 0=>rfl
 | k+1=>by rw [Zfd,bv,zg8 b k];simp
theorem mN (n w:Nat):bv 10 (rU n w)=n:=by
 unfold rU;rw [qU,(qG (b:=10) (by decide) n).1,zg8,Nat.mul_zero,Zeo]
theorem vH (n w:Nat):Dg 10 (rU n w):=(qG (b:=10) (by decide) n).2.1.append (Dg.rep (by decide))
theorem cR {n w:Nat} (h:n<10 ^ w):(rU n w).length=w:=by
 have:=kW (b:=10) (by decide) h;unfold rU;rw [Zae,Zba];omega
theorem zbz {n:Nat} (h:n≠0):rU n 1=dg 10 n:=by
 have e:1<=(dg 10 n).length:=by rw [kJ (by decide) h];simp
 unfold rU;rw [show 1-(dg 10 n).length=0 by omega];simp
theorem zms {x V:Nat} (hx:x<1000000000) (hV:V≠0):dg 10 (x+1000000000*V)=rU x 9++dg 10 V:=by
 have oV:=qG (b:=10) (by decide) V;have e:bv 10 (rU x 9++dg 10 V)=x+1000000000*V:=by
  rw [qU,mN,cR (by omega),oV.1]
 rw [<- e];refine (cI (by decide) ((vH x 9).append oV.2.1) ?_).symm;have hn:dg 10 V≠[]:=by rw [kJ (by decide) hV];simp
 have:=oV.2.2;unfold Nm at *
 rw [List.getLast?_append];cases hl:(dg 10 V).getLast? with
 | none=>exact absurd (List.getLast?_eq_none_iff.1 hl) hn
 | some y=>rw [hl] at this;exact this
theorem zmt {x V:Nat} (hx:x<1000000000) (hV:V≠0):vg (x+1000000000*V) 1=vg V 1++vg x 9:=by
 have hs:x+1000000000*V≠0:=by omega
 unfold vg;rw [zbz hs,zbz hV,zms hx hV];simp
def vk (z:Int):List UInt8:=(if z<0 then [45] else [])++vg z.natAbs 1
theorem m9 {n k:Nat} (h:n<1000000000 ^ k):(vg n 1).length<=9*k+1:=by
 have e:1000000000 ^ k=10 ^ (9*k):=by rw [Nat.pow_mul]
 have:=kW (b:=10) (n:=9*k) (by decide) (by rw [<- e];exact h);unfold vg rU;simp;omega
theorem zdb:vg 0 1=[48]:=by unfold vg rU;rw [j8];rfl
theorem zep {z:Int} {k:Nat} (hk:k<=90000) (hz:Z9 k z):Pure Tryz.prog B 133 [oL z] (· = .str (vk z)):=by
 have oz:=qG (b:=1000000000) (by decide) z.natAbs;have lz:=hz.len;rw [vE];refine zT λh nx K H0 hK=>zN zP yD 1000010 λhf => ?_;rw [yw.go,yw.t30,zA,yw.zy];refine H0.box (l:=[.bool (decide (z<0)),ve (dg 1000000000 z.natAbs)]) rfl λpa h1 nx1 H1 => ?_;rw [zA,zA,yw.zx,sFx,H1.load (k:=0) (i:=0+1) rfl rfl,dLen,qx,zB,yw.v5];by_cases c:z.natAbs=0
 .rw [c,j8,Zac (by rfl),zC,zA,yw.jb];simp only [zE,zM];rw [yw.ret];refine hK _ _ _ _ _ H1 (zR rfl) ?_;rw [vk,c,if_neg (by omega),zdb];rfl
 have hn1:=zeo c;obtain ⟨n,hn⟩:∃ n,(dg 1000000000 z.natAbs).length=n+1:=⟨(dg 1000000000 z.natAbs).length-1,by omega⟩;have htop:=getD_some (l:=dg 1000000000 z.natAbs) (k:=n) (by omega);have htW:=mU (k:=n) (by decide) oz.2.1;have ht1:(dg 1000000000 z.natAbs).getD n 0≠0:=by
  have:=oz.2.2;unfold Nm at this;rw [List.getLast?_eq_getElem?,hn,Nat.add_sub_cancel,htop] at this;intro q;rw [q] at this;exact this rfl
 rw [Zab (by omega),zD,zG,zA,yw.qg,sFx,H1.load (k:=0) (i:=0+1) rfl rfl,sFx,H1.load (k:=0) (i:=0+1) rfl rfl,dLen,dz (by omega),dIx (i:=n) (by omega) (by omega),dLd htop];refine vI (w:=1) (by omega) (by omega) _ _ _ _ ?_;rintro _ rfl _;rw [zA,zA,yw.fU,sFx,H1.load (k:=0) (i:=0+1) rfl rfl,dLen,dz (by omega),zJ];have hdrop:∀ i,i<n+1->(dg 1000000000 z.natAbs).drop i=(dg 1000000000 z.natAbs).getD i 0::(dg 1000000000 z.natAbs).drop (i+1):=λi hi=>by
  have ea:=getD_some (l:=dg 1000000000 z.natAbs) (k:=i) (by omega);rw [List.getElem?_eq_getElem (by omega)] at ea;rw [Zbj (by omega),Option.some.inj ea]
 have hlast:(dg 1000000000 z.natAbs).drop (n+1)=[]:=Zbs (by omega);refine yw.zab (λm x3 x4 h' nx'=>m<=n/\x3=.str (vg (bv 1000000000 ((dg 1000000000 z.natAbs).drop m)) 1)/\x4=I ((m:Int)-1)/\bv 1000000000 ((dg 1000000000 z.natAbs).drop m)≠0/\h'=h1/\nx'=nx1) (m:=n) (by omega) ⟨by omega,by rw [hdrop n (by omega),hlast];simp [bv],by congr 1;omega,by rw [hdrop n (by omega),hlast];simpa [bv] using ht1,rfl,rfl⟩ ?_;rintro m z3 z4 z6 h3 nx3 R ⟨hm,rfl,rfl,hV,rfl,rfl⟩ hR;rw [yw.t15,zA,zA,yw.fE,fI];cases m with
 | zero =>
  rw [Zdg,oz.1,Zab (show ¬ ((0:Int)<=((0:Nat):Int)-1) by omega),zB,yw.v6,zD,zV,yC,zA,zA,yw.rX,sFx,H1.load (k:=0) (i:=0+0) rfl rfl,zB,yw.v7];have hl:=m9 hz;by_cases d:z<0
  .rw [Zac d,zC,zA,yw.aD,tCat (by simp;omega)];simp only [zE,zM];rw [yw.ret];exact hK _ _ _ _ _ H1 (zR rfl) (by rw [vk,if_pos d])
  .rw [Zab d,zD,zG,zA,yw.eY];simp only [zE,zM];rw [yw.ret];exact hK _ _ _ _ _ H1 (zR rfl) (by rw [vk,if_neg d];rfl)
 | succ m =>
  have ea:=getD_some (l:=dg 1000000000 z.natAbs) (k:=m) (by omega);have haW:=mU (k:=m) (by decide) oz.2.1;have hl:(vg (bv 1000000000 ((dg 1000000000 z.natAbs).drop (m+1))) 1).length<=9*k+1:=by
   refine m9 (Zcs ?_ hz);have e:=zqu (b:=1000000000) (l:=dg 1000000000 z.natAbs) (k:=m+1) (by omega);rw [oz.1] at e;have e2:1*bv 1000000000 ((dg 1000000000 z.natAbs).drop (m+1))<=1000000000 ^ (m+1)*bv 1000000000 ((dg 1000000000 z.natAbs).drop (m+1)):=Zax _ (Nat.pow_pos (by decide));omega
  rw [Zac (show (0:Int)<=((m+1:Nat):Int)-1 by omega),zB,yw.v6,zC,zG,zA,zJ,yw.pu,sFx,H1.load (k:=0) (i:=0+1) rfl rfl,dIx (i:=m) (by omega) (by omega),dLd ea];refine vI (w:=9) (by omega) (by omega) _ _ _ _ ?_;rintro _ rfl _;have h9:(vg ((dg 1000000000 z.natAbs).getD m 0) 9).length=9:=by unfold vg;rw [Zai,Zbr,cR (by omega)]
  have e:bv 1000000000 ((dg 1000000000 z.natAbs).drop m)=(dg 1000000000 z.natAbs).getD m 0+1000000000*bv 1000000000 ((dg 1000000000 z.natAbs).drop (m+1)):=by rw [hdrop m (by omega),bv]
  rw [tCat (by omega),yw.rM,dz (by omega)];refine hR m _ _ _ _ _ (by omega) ⟨by omega,by rw [e,zmt haW hV],by congr 1;omega,by rw [e];omega,rfl,rfl⟩
theorem tIdx {s:List UInt8} {i:Nat} {x:Int} {c:UInt8} {K:AV->OP} (hx:x=(i:Int)) (hc:s[i]? = some c):zac (.str s) (I x) K=K (.int .u8 (c.toNat:Int)):=by
 subst hx
 show (match s[i]? with
   | some b=>mh b.toNat λn=>K (.int .u8 (.ofNat n))
   | none=>.no 16)=_
 rw [hc]
 dsimp only
 rw [y3];rfl
theorem zeq {x:Nat} (h:x<10):(dch x).toNat=48+x:=by
 have:∀ x<10,(dch x).toNat=48+x:=by decide +kernel
 exact this x h
theorem zg9 {l:List Nat} {i:Nat} (hi:i<l.length):bv 10 (l.take (i+1)).reverse=l.getD i 0+10*bv 10 (l.take i).reverse:=by
 rw [Zar,getD_some hi];simp [bv]
theorem cJ {l:List Nat} (h:Dg 10 l):bv 10 l.reverse<10 ^ l.length:=by
 have:=zc9 (b:=10) (l:=l.reverse) (by decide) (λx hx=>h x (by simpa using hx))
 rwa [Zbr] at this
theorem zb0 {l:List Nat} (hd:Dg 10 l) (hl:l.length<=18):Pure Tryz.prog B 209 [.str (l.map dch)] (· = I ((bv 10 l.reverse:Nat):Int)):=by
 refine zT λh nx K H0 hK=>zN zP yD 100 λhf => ?_;rw [uf.go,uf.t18,zA,uf.zy,zA,uf.zx,zA,zA,uf.jb,zJ];refine uf.aF (λm x2 x3 h' nx'=>∃ i:Nat,x2=I ((bv 10 (l.take i).reverse:Nat):Int)/\x3=I (i:Int)/\m+i=l.length/\h'=h/\nx'=nx) (m:=l.length) (by omega) ⟨0,rfl,rfl,rfl,rfl,rfl⟩ ?_;rintro m z2 z3 z4 h3 nx3 R ⟨i,rfl,rfl,hm,rfl,rfl⟩ hR;rw [uf.t10,zA,zA,uf.dw,tT,Zai,jq];by_cases c:i<l.length
 .have hx:=mU (k:=i) (by decide) hd;have ec:(l.map dch)[i]? = some (dch (l.getD i 0)):=by rw [List.getElem?_map,getD_some c];rfl
  have hb:=cJ (l:=l.take i) hd.take;rw [Zah,Zce (by omega)] at hb;have hp:10 ^ i<=10 ^ 17:=Zdh (by decide) (by omega);have hs:=zg9 c;rw [Zac (by omega),zB,uf.v4,zC,zG,zA,zJ,uf.qg,rC (by omega),tIdx (i:=i) rfl ec,zeq hx,zje (by omega),um (by omega),dz (by omega),uf.fE,um (by omega)];exact hR (m-1) _ _ _ _ _ (by omega) ⟨i+1,by congr 1;omega,rfl,by omega,rfl,rfl⟩
 .rw [Zab (by omega),zB,uf.v4,zD,zV,yC,zA,uf.fT];simp only [zE,zM];rw [uf.ret];exact hK _ _ _ _ _ H0 (zR rfl) (by rw [Zam (by omega)])
theorem zqw {l:List Nat} {neg:Bool} (hd:Dg 10 l) (hl1:1<=l.length) (hl:l.length<=900000):Pure Tryz.prog B 205 [.str ((if neg then [45] else [])++l.map dch)] (· = oL (if neg then -((bv 10 l.reverse:Nat):Int) else ((bv 10 l.reverse:Nat):Int))):=by
 refine zT λh nx K H0 hK=>zN zP yD 1000010 λhf => ?_;rw [ja.go,ja.t23,zA,ja.zy];refine H0.alloc λp h1 nx1 H1 => ?_;have main:∀ x4:AV,ja.t20.run (CS Tryz.prog B) 1000010 (fnO ja.res K) (zo ja.res K) (ja.fr (.str (l.map dch)) (.ptr p 0) (.bool neg) .u x4 .u) h1 nx1=.ok True:=by
  intro x4;rw [ja.t20,zA,ja.qg,zA,zJ];refine ja.zfk (λm x0 x3 h' nx'=>∃ (i:Nat) (Z:List Nat) (o:Option Pa),x0=.str ((l.take m).map dch)/\x3=uy o 1 i/\1<=m/\m+9*i=l.length/\Z.length=i/\Dg 1000000000 Z/\bv 1000000000 Z+1000000000 ^ i*bv 10 (l.take m).reverse=bv 10 l.reverse/\Hp h h' nx' [.gro o 1 i (Z.map D),.arr p [.bool false,.za]]) (m:=l.length) (by omega) ⟨0,[],none,by rw [Zcz],rfl,hl1,rfl,rfl,λ_ h=>by simp at h,by simp [bv],H1.ak 1⟩ ?_;rintro m z0 z3 z5 h3 nx3 R ⟨i,Z,o,rfl,rfl,hm1,hm,hZ,hdZ,hs,H3⟩ hR;have hlm:(l.take m).length=m:=by rw [Zah];omega
  rw [ja.t14,zA,zA,ja.fU,tT,Zai,hlm,dm];by_cases c:9<m
  .have hlt:(l.take m).take (m-9)=l.take (m-9):=by rw [List.take_take,Zce (by omega)]
   have hpl:((l.take m).drop (m-9)).length=9:=by rw [Zch];omega
   have hpd:Dg 10 ((l.take m).drop (m-9)):=λx hx=>hd x (Zbt (List.mem_of_mem_drop hx));have hpb:=cJ hpd;rw [hpl] at hpb;have hsp:bv 10 (l.take m).reverse=bv 10 ((l.take m).drop (m-9)).reverse+1000000000*bv 10 (l.take (m-9)).reverse:=by
    have e:l.take m=l.take (m-9)++(l.take m).drop (m-9):=by rw [<- hlt,Zep]
    conv=>lhs;rw [e]
    rw [List.reverse_append,qU,Zbr,hpl]
   rw [Zac (by omega),zB,ja.v5,zC,zG,zJ,zA,ja.sV,tT,Zai,hlm,dz (by omega),zby (a:=m-9) (by omega) (by rw [Zai,hlm];omega),<- List.map_drop];refine zb0 hpd (by omega) _ _ _ _ ?_;rintro _ rfl _;refine H3.oU (v:=D (bv 10 ((l.take m).drop (m-9)).reverse)) (by omega) (by decide) rfl rfl λo' h4 n4 H4 => ?_;rw [ja.pu,tT,Zai,hlm,dz (by omega),tTo (b:=m-9) (by omega) (by rw [Zai,hlm];omega),<- Zfv,hlt];refine hR (m-9) _ _ _ _ _ (by omega) ⟨i+1,Z++[bv 10 ((l.take m).drop (m-9)).reverse],o',rfl,rfl,by omega,by omega,by simp [hZ],hdZ.append (Dg.one hpb),?_,by rw [Zbp];exact H4⟩;rw [fA,hZ,Zei,Zda,Zey,<- Zem,<- hsp];exact hs
  .have hpd:Dg 10 (l.take m):=hd.take;have hpb:=cJ hpd;rw [hlm] at hpb;have hp:10 ^ m<=10 ^ 9:=Zdh (by decide) (by omega);rw [Zab (by omega),zB,ja.v5,zD,zV,yC,zA,ja.sW];refine zb0 hpd (by omega) _ _ _ _ ?_;rintro _ rfl _;refine H3.oU (v:=D (bv 10 (l.take m).reverse)) (by omega) (by decide) rfl rfl λo' h4 n4 H4 => ?_;rw [show Z.map D++[D (bv 10 (l.take m).reverse)]=(Z++[bv 10 (l.take m).reverse]).map D by rw [Zbp];rfl] at H4;obtain ⟨h5,hkp,H5,hF⟩:=H4.zkr (by simp [hZ]);refine dQ hkp (.cons (.bool _) (.cons hF .nil)) ?_;refine xI (hdZ.append (Dg.one (by omega))) (by simp;omega) _ _ _ _ ?_;rintro _ rfl _;rw [fA,hZ,hs]
   generalize (if neg=true then -((bv 10 l.reverse:Nat):Int) else ((bv 10 l.reverse:Nat):Int))=z at *
   refine H5.yx (l2:=[.bool (decide (z<0)),ve (dg 1000000000 z.natAbs)]) (k:=0) rfl rfl rfl λh6 H6 => ?_;simp only [zE,zM];rw [ja.ret,H6.zk (k:=0) (n:=2) rfl rfl];exact hK _ _ _ _ _ H6 dAgg rfl
 cases neg with
 | true =>
  rw [if_pos rfl,zA,ja.zx,tT,dm,Zac (by simp)];simp only [yL];rw [tIdx (s:=[45]++l.map dch) (i:=0) (x:=0) (c:=45) rfl rfl,qx];simp only [zW];rw [show decide (((45:UInt8).toNat:Int)=45)=true from rfl,zA,zA,ja.jb,zB,ja.v4,zC,ja.dw,zby (s:=[45]++l.map dch) (a:=1) (x:=1) rfl (by simp)];exact main _
 | false =>
  have ec:(l.map dch)[0]? = some (dch (l.getD 0 0)):=by rw [List.getElem?_map,getD_some (by omega)];rfl
  have hx:=mU (k:=0) (by decide) hd;rw [if_neg (by decide),Zbo,zA,ja.zx,tT,Zai,dm,Zac (by omega)];simp only [yL];rw [tIdx (i:=0) (x:=0) rfl ec,qx,zeq hx];simp only [zW];rw [Zab (by omega),zA,zA,ja.jb,zB,ja.v4,zD,zG];exact main _
theorem vT {s:List UInt8} {j:Nat} (hl:s.length<=1000000) (hj:j<=s.length) (hb:∀ i c,i<j->s[i]? = some c->c≠47) (he:j=s.length\/s[j]? = some 47):Pure Tryz.prog B 206 [.str s] (· = I (j:Int)):=by
 refine zT λh nx K H0 hK=>zN zP yD 1000010 λhf => ?_;rw [jo.go,jo.t20,zA,jo.zy,zA,zA,jo.zx,zJ];refine jo.zfl (λm x2 h' nx'=>∃ i:Nat,x2=I (i:Int)/\m+i=j/\h'=h/\nx'=nx) (m:=j) (by omega) ⟨0,rfl,rfl,rfl,rfl⟩ ?_;rintro m z1 z2 z3 z4 h3 nx3 R ⟨i,rfl,hm,rfl,rfl⟩ hR;rw [jo.t13,zA,zA,jo.jb,tT,jq];by_cases c:i<s.length
 .have ec:=List.getElem?_eq_getElem c;rw [Zac (by omega),zB,jo.v3,zC,zG,zA,zJ,zA,jo.rE,tIdx (i:=i) rfl ec,qx,zB,jo.v4];by_cases d:i<j
  .have hn:=hb i _ d ec
   have hn2:¬ ((s[i].toNat:Int)=47):=λq=>hn (by
    have:s[i].toNat=(47:UInt8).toNat:=by
     have e:(47:UInt8).toNat=47:=rfl;omega
    exact UInt8.toNat_inj.1 this)
   rw [Zab hn2,zD,zG,jo.pu,um (by omega)];exact hR (m-1) _ _ _ _ _ _ (by omega) ⟨i+1,rfl,by omega,rfl,rfl⟩
  .obtain rfl:i=j:=by omega
   have e47:s[i]=47:=by
    rcases he with e | e
    .omega
    .rw [ec] at e;exact Option.some.inj e
   rw [e47,show decide (((47:UInt8).toNat:Int)=47)=true from rfl,zC,zA,jo.qg];simp only [zE,vN,zM];rw [jo.ret];exact hK _ _ _ _ _ H0 (zR rfl) rfl
 .obtain rfl:i=j:=by omega
  rw [Zab (by omega),zB,jo.v3,zD,zV,yC,zA,jo.sW,tT];simp only [zE,zM];rw [jo.ret];exact hK _ _ _ _ _ H0 (zR rfl) (by congr 1;omega)
def ku (q:Rat):List UInt8:=vk q.num++(if q.den=1 then [] else 47::vk (q.den:Int))
theorem zx9 {x:Nat} (h:x<10):dch x≠47:=by
 have:∀ x<10,dch x≠47:=by decide +kernel
 exact this x h
theorem qR {z:Int} {c:UInt8} (h:c∈vk z):c≠47:=by
 unfold vk vg at h;rcases List.mem_append.1 h with q | q
 .split at q
  .rw [List.mem_singleton.1 q];decide
  .cases q
 .obtain ⟨x,hx,rfl⟩:=List.mem_map.1 q;exact zx9 (vH _ _ x (by simpa using hx))
theorem kG {z:Int} {k:Nat} (h:Z9 k z):(vk z).length<=9*k+2:=by
 have:=m9 h;unfold vk;rw [Zae];split <;> simp <;> omega
theorem zha (n:Nat):1<=(rU n 1).length:=by unfold rU;rw [Zae,Zba];omega
theorem zes {z:Int} {k:Nat} (hk:k<=90000) (hz:Z9 k z):Pure Tryz.prog B 205 [.str (vk z)] (· = oL z):=by
 have hl:=m9 hz;unfold vg at hl;rw [Zai,Zbr] at hl;have hp:=zqw (B:=B) (l:=(rU z.natAbs 1).reverse) (neg:=decide (z<0)) (λx hx=>vH _ _ x (by simpa using hx)) (by rw [Zbr];exact zha _) (by rw [Zbr];omega);rw [Zew,mN] at hp;have e1:(if decide (z<0)=true then [45] else [])++(rU z.natAbs 1).reverse.map dch=vk z:=by
  unfold vk vg;by_cases d:z<0
  .rw [if_pos d,if_pos (Zac d)]
  .rw [if_neg d,if_neg (by rw [Zab d];decide)]
 have e2:(if decide (z<0)=true then -((z.natAbs:Nat):Int) else ((z.natAbs:Nat):Int))=z:=by
  by_cases d:z<0
  .rw [if_pos (Zac d)];omega
  .rw [if_neg (by rw [Zab d];decide)];omega
 rw [e1,e2] at hp;exact hp
theorem zqx {q:Rat} {k:Nat} (hk:k<=40000) (hn:Z9 k q.num) (hd:Z9 k (q.den:Int)):Pure Tryz.prog B 129 [.str (ku q)] (· = .tup [oL q.num,oL (q.den:Int)]):=by
 refine zT λh nx K H0 hK=>zN zP yD 100 λhf => ?_;have l1:=kG hn;have l2:=kG hd;rw [ql.go,ql.t13,zA,ql.zy];refine H0.alloc λp1 h1 nx1 H1 => ?_;refine H1.alloc λp2 h2 nx2 H2 => ?_;rw [zA,ql.zx,zA,ql.jb];by_cases c:q.den=1
 .have e:ku q=vk q.num:=by unfold ku;rw [if_pos c,Zbi]
  rw [e];refine vT (j:=(vk q.num).length) (by omega) (by omega) (λi c _ hc=>qR (Zad hc)) (.inl rfl) _ _ _ _ ?_;rintro _ rfl _;rw [zA,zA,ql.dw,tT,qx,Zac rfl,zB,ql.v5,zC,zA,ql.rD];refine zes (by omega) hn _ _ _ _ ?_;rintro _ rfl _;refine zg6 (by omega) _ _ _ _ ?_;rintro _ rfl _;refine H2.yx (l2:=[.bool (decide (q.num<0)),ve (dg 1000000000 q.num.natAbs)]) (k:=1) rfl rfl rfl λh3 H3 => ?_;refine H3.yx (l2:=[.bool (decide ((1:Int)<0)),ve (dg 1000000000 (1:Int).natAbs)]) (k:=0) rfl rfl rfl λh4 H4 => ?_;simp only [zE,zM];rw [ql.ret,H4.zk (k:=1) (n:=2) rfl rfl,H4.zk (k:=0) (n:=2) rfl rfl];exact hK _ _ _ _ _ H4 (jP dAgg dAgg) (by rw [c];rfl)
 .have e:ku q=vk q.num++47::vk (q.den:Int):=by unfold ku;rw [if_neg c]
  have el:(ku q).length=(vk q.num).length+((vk (q.den:Int)).length+1):=by rw [e,Zae,Zbd]
  have et:(ku q).take (vk q.num).length=vk q.num:=by rw [e,List.take_left'];rfl
  have ed:(ku q).drop ((vk q.num).length+1)=vk (q.den:Int):=by rw [e,<- Zgi,List.drop_left'];rfl;rfl
  refine vT (j:=(vk q.num).length) (by omega) (by omega) (λi c hi hc => ?_) (.inr ?_) _ _ _ _ ?_
  .rw [e,List.getElem?_append_left hi] at hc;exact qR (Zad hc)
  .rw [e,List.getElem?_append_right (Zaf _),Zcd];rfl
  rintro _ rfl _;rw [zA,zA,ql.dw,tT,qx,Zab (by omega),zB,ql.v5,zD,zG,zA,ql.fE,tTo (b:=(vk q.num).length) rfl (by omega),et,um (by omega),zby (a:=(vk q.num).length+1) (by omega) (by omega),ed];refine zes (by omega) hn _ _ _ _ ?_;rintro _ rfl _;rw [zby (a:=(vk q.num).length+1) (by omega) (by omega),ed,zH,um (by omega)];simp only [zH];refine zes (by omega) hd _ _ _ _ ?_;rintro _ rfl _;refine H2.yx (l2:=[.bool (decide (q.num<0)),ve (dg 1000000000 q.num.natAbs)]) (k:=1) rfl rfl rfl λh3 H3 => ?_;refine H3.yx (l2:=[.bool (decide ((q.den:Int)<0)),ve (dg 1000000000 (q.den:Int).natAbs)]) (k:=0) rfl rfl rfl λh4 H4 => ?_;simp only [zE,zM];rw [ql.ret,H4.zk (k:=1) (n:=2) rfl rfl,H4.zk (k:=0) (n:=2) rfl rfl];exact hK _ _ _ _ _ H4 (jP dAgg dAgg) rfl
def si (q:Rat):List UInt8:=vg q.num.natAbs 1++(if q.den=1 then [] else 47::vg q.den 1)
theorem dY (q:Rat):ku q=(if q.num<0 then [45] else [])++si q:=by
 unfold ku si vk;rw [Zbu,if_neg (show ¬ ((q.den:Int)<0) by omega),Zbo,Zbq]
theorem m8 (n:Nat):1<=(vg n 1).length:=by unfold vg;rw [Zai,Zbr];exact zha n
theorem pF {n:Nat} {c:UInt8} (h:c∈vg n 1):c≠47/\c≠45:=by
 unfold vg at h;obtain ⟨x,hx,rfl⟩:=List.mem_map.1 h;have hx10:=vH n 1 x (by simpa using hx);have:∀ x<10,dch x≠47/\dch x≠45:=by decide +kernel
 exact this x hx10
theorem zqy {n:Nat} (hl:(vg n 1).length<=18):Pure Tryz.prog B 209 [.str (vg n 1)] (· = I (n:Int)):=by
 have hl2:=hl;unfold vg at hl2;rw [Zai] at hl2;have:=zb0 (B:=B) (l:=(rU n 1).reverse) (λx hx=>vH _ _ x (by simpa using hx)) hl2;rw [Zew,mN] at this;exact this
theorem zto {n k:Nat} (hl:(vg n 1).length<=k):n<10 ^ k:=by
 have e:(rU n 1).length<=k:=by unfold vg at hl;simpa using hl
 have:=zc9 (b:=10) (by decide) (vH n 1);rw [mN] at this;exact Zcj this (Zdh (by decide) e)
theorem mK {q:Rat} (hq1:q.num.natAbs<1000000000) (hq2:q.den<1000000000):Pure Tryz.prog B 127 [.str (ku q)] (· = .tup [I q.num,I (q.den:Int),.bool true]):=by
 refine zT λh nx K H0 hK=>zN zP yD 100 λhf => ?_;have w9:∀ {n:Nat},n<1000000000->(vg n 1).length<=9:=λ{n} h=>by
  have:=kW (b:=10) (z:=n) (n:=9) (by decide) h;unfold vg rU;rw [Zai,Zbr,Zae,Zba];omega
 have h9n:=w9 hq1;have h9d:=w9 hq2;have hcut:ku q=(if q.num<0 then [45] else [])++si q:=dY q;have hd1:=m8 q.num.natAbs;have hbl:(si q).length=(vg q.num.natAbs 1).length+(if q.den=1 then [] else 47::vg q.den 1).length:=by rw [si,Zae]
 have hb19:(si q).length<=(vg q.num.natAbs 1).length+10:=by rw [hbl];split <;> simp;omega
 have hr20:(ku q).length<=20:=by rw [hcut,Zae];split <;> simp <;> omega
 rw [zu.go,zu.t38,zA,zu.zy,zA,zu.zx,zA,zA,zu.jb,tT,dm,zB,zu.v9];rw [Zab (by omega),zD,zG];have main:∀ x10:AV,zu.t33.run (CS Tryz.prog B) 100 (fnO zu.res K) (zo zu.res K) (zu.fr (.str (ku q)) (I 0) (I 0) (.bool false) (.str (si q)) (.bool (decide (q.num<0))) .u .u .u (.bool false) x10 .u .u .u) h nx=.ok True:=by
  intro x10;have qbc:∀ i c,i<(vg q.num.natAbs 1).length->(si q)[i]? = some c->c≠47:=λi c hi hc=>by
   rw [si,List.getElem?_append_left hi] at hc;exact (pF (Zad hc)).1
  have hat:(vg q.num.natAbs 1).length=(si q).length\/(si q)[(vg q.num.natAbs 1).length]? = some 47:=by
   by_cases c:q.den=1
   .rw [if_pos c] at hbl;exact .inl (by simpa using hbl.symm)
   .right
    rw [si,if_neg c,List.getElem?_append_right (Zaf _),Zcd];rfl
  have ht:(si q).take (vg q.num.natAbs 1).length=vg q.num.natAbs 1:=by rw [si,List.take_left'];rfl
  rw [zu.t33,zA,zu.ni];refine vT (j:=(vg q.num.natAbs 1).length) (by omega) (by omega) qbc hat _ _ _ _ ?_;rintro _ rfl _;rw [zA,zA,zu.rM,zu.r8_0,zu.zwj,dm];rw [Zab (by omega)];simp only [y4];rw [tT,dz (by omega),dm,zu.r8_1,zu.zwk];simp only [zZ];rw [zB,zu.v11];rw [Zab (by omega),zD,zG,zA,zu.zfm,tTo (b:=(vg q.num.natAbs 1).length) rfl (by omega),ht];refine zqy (by omega) _ _ _ _ ?_;rintro _ rfl _;have fin:∀ x12:AV,zu.t29.run (CS Tryz.prog B) 100 (fnO zu.res K) (zo zu.res K) (zu.fr (.str (ku q)) (I 0) (I 0) (.bool false) (.str (si q)) (.bool (decide (q.num<0))) (I ((vg q.num.natAbs 1).length:Int)) (I (q.num.natAbs:Int)) (I (q.den:Int)) (.bool false) x10 (.bool false) x12 .u) h nx=.ok True:=by
   intro x12;rw [zu.t29,zA,zA,zu.zne,zB,zu.v13];by_cases d:q.num<0
   .rw [Zac d,zC,zu.eY,dz (by omega),zA,zu.zjx];simp only [zE,zM];rw [zu.ret];exact hK _ _ _ _ _ H0 (zgp (.int _ _) (.int _ _) (.bool _)) (by rw [show (0:Int)-(q.num.natAbs:Int)=q.num by omega])
   .rw [Zab d,zD,zG,zA,zu.zjx];simp only [zE,zM];rw [zu.ret];exact hK _ _ _ _ _ H0 (zgp (.int _ _) (.int _ _) (.bool _)) (by rw [show ((q.num.natAbs:Nat):Int)=q.num by omega])
  rw [zA,zA,zu.rX,tT,jq,zB,zu.v12];by_cases c:q.den=1
  .rw [if_pos c,Zfe,Zeo] at hbl;rw [Zab (by omega),zD,zG];have:=fin (.bool false);rw [c] at this;exact this
  .rw [if_neg c,Zbd] at hbl;have ed:(si q).drop ((vg q.num.natAbs 1).length+1)=vg q.den 1:=by rw [si,if_neg c,<- Zgi,List.drop_left'];rfl;rfl
   rw [Zac (by omega),zC,zu.aD,um (by omega),zby (a:=(vg q.num.natAbs 1).length+1) (by omega) (by omega),ed];refine zqy (by omega) _ _ _ _ ?_;rintro _ rfl _;exact fin _
 by_cases d:q.num<0
 .rw [if_pos d] at hcut;have e0:(ku q)[0]? = some 45:=by rw [hcut];rfl
  have el:(ku q).length=(si q).length+1:=by rw [hcut];rfl
  have ed:(ku q).drop 1=si q:=by rw [hcut];rfl
  rw [zA,zu.fU,tT,dm,Zac (by omega)];simp only [yL];rw [tIdx (i:=0) (x:=0) rfl e0,qx];simp only [zW];rw [show decide (((45:UInt8).toNat:Int)=45)=true from rfl,zA,zA,zu.fE,zB,zu.v10,zC,zu.rF,zby (a:=1) (x:=1) rfl (by omega),ed];have:=main (.bool true);rw [Zac d] at this;exact this
 .rw [if_neg d,Zbo] at hcut;obtain ⟨c0',hc0⟩:∃ c,(vg q.num.natAbs 1)[0]? = some c:=⟨_,List.getElem?_eq_getElem (by omega)⟩;have e0:(ku q)[0]? = some c0':=by rw [hcut,si,List.getElem?_append_left (by omega),hc0]
  have hne:=(pF (Zad hc0)).2
  have hne2:¬ ((c0'.toNat:Int)=45):=λh=>hne (by
   have e:(45:UInt8).toNat=45:=rfl;have:c0'.toNat=(45:UInt8).toNat:=by omega
   exact UInt8.toNat_inj.1 this)
  rw [zA,zu.fU,tT,dm,Zac (by rw [hcut];omega)];simp only [yL];rw [tIdx (i:=0) (x:=0) rfl e0,qx];simp only [zW];rw [Zab hne2,zA,zA,zu.fE,zB,zu.v10,zD,zG];have:=main (.bool false);rw [Zab d] at this;rw [<- hcut] at this;exact this
def rH (z:Int):Prop := -9223372036854775807<=z/\z<=9223372036854775807
def qm (s w:AV) (z:Int):Prop:=s=I z/\w=.za/\rH z
def wm (v:AV) (z:Int):Prop:=∃ s w,v=.agg [s,w]/\qm s w z
theorem uL {N:Pa->Prop} {O:AV->Prop} {hh:T Blk} {l:List AV} (h:∀ v∈l,fP v=true):Frz True N O hh (.agg l) (.agg l) :=
 .agg _ _ rfl (List.all_eq_true.2 λv hv=>fP.uz (h v hv)) λi v v' h1 h2=>by rw [h1] at h2;cases h2;exact zR (h v (Zad h1))
theorem qm.fix {s w:AV} {z:Int} (h:qm s w z):∀ v∈[s,w],fP v=true:=by
 intro v hv;simp only [Zaq,Zfy,or_false] at hv;obtain ⟨rfl,rfl,_⟩:=h;rcases hv with rfl | rfl <;> rfl
theorem wm.frz {v:AV} {z:Int} (h:wm v z) {N:Pa->Prop} {O:AV->Prop} {hh:T Blk}:Frz True N O hh v v:=by
 obtain ⟨s,w,rfl,h⟩:=h;exact uL h.fix
theorem yV {z:Int} (h:rH z):wm (.agg [I z,.za]) z:=⟨_,_,rfl,rfl,rfl,h⟩
theorem uM {K:AV->OP}:ze .eql (.nil .sl) .za .za K=K (.bool true):=nr rfl
theorem zya {a b:Bool} {K:AV->OP}:ze .eql .bool (.bool a) (.bool b) K=K (.bool (a==b)):=by cases a <;> cases b <;> exact nr rfl
theorem zyb {a b:Bool} {K:AV->OP}:ze .neq .bool (.bool a) (.bool b) K=K (.bool (a != b)):=by cases a <;> cases b <;> exact nr rfl
theorem uO {z:Int} {K:AV->OP}:gU [(I 0),.za] [(0,1,I z)] K=K (.agg [I z,.za]):=nr rfl
theorem zqz {z:Int} (h:rH z):Pure Tryz.prog B 187 [I z] (λv=>wm v z):=by
 refine zT λhh nx K H0 hK=>zN zP yD 100 λhf => ?_;rw [fK.go,fK.t3,zA,fK.zy];refine H0.alloc λp h1 nx1 H1 => ?_;rw [zA,fK.zx,uO];refine H1.yx (l2:=[I z,.za]) (k:=0) rfl rfl rfl λh4 H4 => ?_;simp only [zE,zM];rw [fK.ret,H4.zk (k:=0) (n:=2) rfl rfl];exact hK _ _ _ _ _ H4 (yV h).frz (yV h)
def j4 (z:Int):Int:=if z<0 then -1 else if 0<z then 1 else 0
theorem ztp {z:Int} {K:AV->OP}:sMin false (I 1) [I z] K=K (I (if z<1 then z else 1)):=by
 have e:sMin false (I 1) [I z] K=K (I (bif ilt z 1 then z else 1)):=nr rfl;rw [e,wZ];by_cases c:z<1
 .rw [if_pos c,Zac c];rfl
 .rw [if_neg c,Zab c];rfl
theorem ztq {z:Int} {K:AV->OP}:sMin true (I (-1)) [I z] K=K (I (if -1<z then z else -1)):=by
 have e:sMin true (I (-1)) [I z] K=K (I (bif ilt (-1) z then z else -1)):=nr rfl;rw [e,wZ];by_cases c : -1<z
 .rw [if_pos c,Zac c];rfl
 .rw [if_neg c,Zab c];rfl
theorem dS {v:AV} {z:Int} (hv:wm v z):Pure Tryz.prog B 194 [v] (· = I (j4 z)):=by
 obtain ⟨s,w,rfl,rfl,rfl,hv⟩:=hv;refine zT λh nx K H0 hK=>zN zP yD 100 λhf => ?_;rw [ng.go,ng.t3,zA,ng.zy];refine H0.box (l:=[I z,.za]) rfl λpa h1 nx1 H1 => ?_;have hn:(if -1<(if z<1 then z else 1) then (if z<1 then z else 1) else -1)=j4 z:=by
  unfold j4
  (repeat' split) <;> omega
 rw [zA,ng.zx,sFx,H1.load (k:=0) (i:=0+0) rfl rfl,ztp,ztq,hn];simp only [zE,zM];rw [ng.ret];exact hK _ _ _ _ _ H1 (zR rfl) rfl
theorem xM {v:AV} {z:Int} (hv:wm v z):Pure Tryz.prog B 193 [v] (λv=>wm v (-z)):=by
 obtain ⟨s,w,rfl,rfl,rfl,hv⟩:=hv;unfold rH at hv;refine zT λh nx K H0 hK=>zN zP yD 100 λhf => ?_;rw [bf.go,bf.t11,zA,bf.zy];refine H0.box (l:=[I z,.za]) rfl λpa h1 nx1 H1 => ?_;refine H1.alloc λp h2 nx2 H2 => ?_;rw [zA,zA,bf.zx,sFx,H2.load (k:=1) (i:=0+1) (v:=.za) rfl rfl,uM];simp only [yL];rw [sFx,H2.load (k:=1) (i:=0+0) rfl rfl,fV,zW,zB,bf.v5,Zab (by omega),Zal,zC,zA,bf.jb,sFx,H2.load (k:=1) (i:=0+0) rfl rfl,uNeg (by omega),uO];refine H2.yx (l2:=[I (-z),.za]) (k:=0) rfl rfl rfl λh4 H4 => ?_;simp only [zE,zM];rw [bf.ret,H4.zk (k:=0) (n:=2) rfl rfl];exact hK _ _ _ _ _ H4 (yV (by unfold rH;omega)).frz (yV (by unfold rH;omega))
theorem zjf {a b:Int} {K:AV->OP}:ze .add .int (I a) (I b) K=K (I (IntKind.wrap .i64 (a+b))):=zvc
theorem zhb {a b:Int} (ha : -9223372036854775808<=a/\a<=9223372036854775807) (hb : -9223372036854775808<=b/\b<=9223372036854775807) :
  (decide (a<IntKind.wrap .i64 (a+b))==decide (0<b))=true↔(-9223372036854775808<=a+b/\a+b<=9223372036854775807):=by
 have e:∀ z:Int,IntKind.wrap .i64 z=(z+9223372036854775808)%18446744073709551616-9223372036854775808:=by
  intro z;rw [IntKind.wrap_i64] <;> omega
 rw [e];by_cases c:0<b
 .rw [Zac c];by_cases d:a+b<=9223372036854775807
  .rw [Zac (by omega)];simp;omega
  .rw [Zab (by omega)];simp;omega
 .rw [Zab c];by_cases d : -9223372036854775808<=a+b
  .rw [Zab (by omega)];simp;omega
  .rw [Zac (by omega)];simp;omega
theorem zks {va vb:AV} {a b:Int} (hva:wm va a) (hvb:wm vb b) (hs:rH (a+b)):Pure Tryz.prog B 197 [va,vb] (λv=>wm v (a+b)):=by
 obtain ⟨s,w,rfl,rfl,rfl,hva⟩:=hva;obtain ⟨s',w',rfl,rfl,rfl,hvb⟩:=hvb;unfold rH at hva hvb;have hs':=hs;unfold rH at hs';refine zT λh nx K H0 hK=>zN zP yD 100 λhf => ?_;rw [qz.go,qz.t30,zA,qz.zy];refine H0.box (l:=[I a,.za]) rfl λpa h1 nx1 H1 => ?_;refine H1.box (l:=[I b,.za]) rfl λpb h2 nx2 H2 => ?_;refine H2.alloc λp h3 nx3 H3 => ?_;rw [zA,zA,qz.zx,sFx,H3.load (k:=2) (i:=0+1) (v:=.za) rfl rfl,uM];simp only [yL];rw [sFx,H3.load (k:=1) (i:=0+1) (v:=.za) rfl rfl,uM,zW,zB,qz.v10,zC,zA,qz.jb,sFx,H3.load (k:=2) (i:=0+0) rfl rfl,sFx,H3.load (k:=1) (i:=0+0) rfl rfl,zjf,zA,qz.dw,sFx,H3.load (k:=2) (i:=0+0) rfl rfl,dm,sFx,H3.load (k:=1) (i:=0+0) rfl rfl,dm,zya,zB,qz.v11];have hw : -9223372036854775808<=a+b/\a+b<=9223372036854775807:=by omega
 rw [(zhb (a:=a) (b:=b) (by omega) (by omega)).2 hw,zC,zA,qz.rD,qO hw,uO];simp only [zE,zM];refine H3.yx (l2:=[I (a+b),.za]) (k:=0) rfl rfl rfl λh4 H4 => ?_;rw [qz.ret,H4.zk (k:=0) (n:=2) rfl rfl];exact hK _ _ _ _ _ H4 (yV hs).frz (yV hs)
theorem zq0 {va vb:AV} {a b:Int} (hva:wm va a) (hvb:wm vb b):Pure Tryz.prog B 229 [va,vb] (· = I (j4 (a-b))):=by
 obtain ⟨s,w,rfl,rfl,rfl,hva⟩:=hva;obtain ⟨s',w',rfl,rfl,rfl,hvb⟩:=hvb;refine zT λh nx K H0 hK=>zN zP yD 100 λhf => ?_;rw [ul.go,ul.t21,zA,ul.zy];refine H0.box (l:=[I a,.za]) rfl λpa h1 nx1 H1 => ?_;refine H1.box (l:=[I b,.za]) rfl λpb h2 nx2 H2 => ?_;rw [zA,zA,ul.zx,sFx,H2.load (k:=1) (i:=0+1) (v:=.za) rfl rfl];rw [uM];simp only [yL];rw [sFx,H2.load (k:=0) (i:=0+1) (v:=.za) rfl rfl];rw [uM,zW,zB,ul.v5,zC,zA,zJ,zA,ul.jb,sFx,H2.load (k:=1) (i:=0+0) rfl rfl,sFx,H2.load (k:=0) (i:=0+0) rfl rfl,jq,zB,ul.v6];have fin:∀ {z:Int},z=j4 (a-b)->K (I z) h2 nx2=.ok True:=λe=>hK _ _ _ _ _ H2 (zR rfl) (by rw [e]);by_cases c:a<b
 .rw [Zac c,zC,zA,ul.dw];simp only [zE,vN,zM];rw [ul.ret];exact fin (by unfold j4;rw [if_pos (by omega)])
 rw [Zab c,zD,zA,ul.rE,sFx,H2.load (k:=1) (i:=0+0) rfl rfl,sFx,H2.load (k:=0) (i:=0+0) rfl rfl,dm,zB,ul.v7];by_cases d:b<a
 .rw [Zac d,zC,zA,ul.qg];simp only [zE,vN,zM];rw [ul.ret];exact fin (by unfold j4;rw [if_neg (by omega),if_pos (by omega)])
 .rw [Zab d,zD,zG,zA,ul.rM];simp only [zE,zM];rw [ul.ret];exact fin (by unfold j4;rw [if_neg (by omega),if_neg (by omega)])
theorem q9 {va vb:AV} {a b:Int} (hva:wm va a) (hvb:wm vb b) (hs:rH (a*b)):Pure Tryz.prog B 198 [va,vb] (λv=>wm v (a*b)):=by
 obtain ⟨s,w,rfl,rfl,rfl,hva⟩:=hva;obtain ⟨s',w',rfl,rfl,rfl,hvb⟩:=hvb;unfold rH at hva hvb;have hs':=hs;unfold rH at hs';have hab:a.natAbs*b.natAbs<=9223372036854775807:=by rw [<- Zcc];omega
 refine zT λh nx K H0 hK=>zN zP yD 100 λhf => ?_;rw [uj.go,uj.t24,zA,uj.zy];refine H0.box (l:=[I a,.za]) rfl λpa h1 nx1 H1 => ?_;refine H1.box (l:=[I b,.za]) rfl λpb h2 nx2 H2 => ?_;refine H2.alloc λp h3 nx3 H3 => ?_;have hsgn:(if (decide (a<0) != decide (b<0))=true then -((a.natAbs*b.natAbs:Nat):Int) else ((a.natAbs*b.natAbs:Nat):Int))=a*b:=by
  rw [<- Zcc];by_cases c1:a<0 <;> by_cases c2:b<0
  .rw [Zac c1,Zac c2,if_neg (by decide)];have:=Zec (show a<=0 by omega) (show b<=0 by omega);omega
  .rw [Zac c1,Zab c2,if_pos (by decide)];have:=Int.mul_nonpos_of_nonpos_of_nonneg (show a<=0 by omega) (show 0<=b by omega);omega
  .rw [Zab c1,Zac c2,if_pos (by decide)];have:=Int.mul_nonpos_of_nonneg_of_nonpos (show 0<=a by omega) (show b<=0 by omega);omega
  .rw [Zab c1,Zab c2,if_neg (by decide)];have:=Zgj (show 0<=a by omega) (show 0<=b by omega);omega
 have ret:∀ {h4 nx4 z} {x0 x1 x2 x3 x5 x6 x7 x8 x9 x10 x11 x12 x13:AV},Hp h h4 nx4 [.arr p [I 0,.za],.arr pb [I b,.za],.arr pa [I a,.za]]->z=a*b->(zX 2 (.ptr p 0) (.agg [I z,.za]) h4 nx4 λv2 h3 n4=>zo uj.res K (uj.fr x0 x1 x2 x3 (.ptr p 0) x5 x6 x7 x8 x9 x10 x11 x12 x13) h3 n4)=.ok True:=λH e=>by
  subst e;refine H.yx (l2:=[I (a*b),.za]) (k:=0) rfl rfl rfl λh4 H4 => ?_;rw [uj.ret,H4.zk (k:=0) (n:=2) rfl rfl];exact hK _ _ _ _ _ H4 (yV hs).frz (yV hs)
 rw [zA,zA,uj.zx,sFx,H3.load (k:=2) (i:=0+1) (v:=.za) rfl rfl,uM];simp only [yL];rw [sFx,H3.load (k:=1) (i:=0+1) (v:=.za) rfl rfl,uM,zW,zB,uj.v11,zC,zA,uj.jb,sFx,H3.load (k:=2) (i:=0+0) rfl rfl,sFx,H3.load (k:=1) (i:=0+0) rfl rfl];refine zkq (by omega) _ _ _ _ ?_;rintro _ rfl _;rw [H3.load (k:=1) (i:=0+0) rfl rfl,zH,sFx,zH];refine zkq (by omega) _ _ _ _ ?_;rintro _ rfl _;refine zx3 (by omega) (by omega) _ _ _ _ ?_;rintro _ rfl _;rw [jB,jC,zA,uj.dw,qa7,Zac (Zej (by omega))];simp only [yL];rw [Zcg (by omega),show (AV.int .u64 9223372036854775807)=U 9223372036854775807 from rfl,uLeq,zW,zB,uj.v12];rw [Zac hab,zC,zA,zA,uj.rD,sFx,H3.load (k:=2) (i:=0+0) rfl rfl,jq,sFx,H3.load (k:=1) (i:=0+0) rfl rfl,jq,zyb,zB,uj.v13];by_cases c:(decide (a<0) != decide (b<0))=true
 .rw [if_pos c] at hsgn;rw [c,zC,zA,uj.rE,zje (by omega),uNeg (by omega),uO];simp only [zE,zM];exact ret H3 hsgn
 .rw [if_neg c] at hsgn;rw [show (decide (a<0) != decide (b<0))=false by simpa using c,zD,zG,zA,uj.rF,zje (by omega),uO];simp only [zE,zM];exact ret H3 hsgn
theorem zkt {a b:Int} {K:AV->OP} (ha : -9223372036854775808<=a/\a<=9223372036854775807) (hb:1<=b):ze .quo .int (I a) (I b) K=K (I (a.tdiv b)):=by
 have e:ze .quo .int (I a) (I b) K=(bif ieq b 0 then Out.no 5 else vz (IntKind.i64.wrap (a.tdiv b)) λz=>K (.int .i64 z)):=rfl;have h0:ieq b 0=false:=by rw [xA];exact Zab (by omega)
 rw [e,h0,cond_false,uR,Go.IntWalk.i64_quo' a b ⟨ha.1,ha.2,hb⟩]
theorem ztr {a b:Int} {K:AV->OP} (hb:1<=b):ze .rem .int (I a) (I b) K=K (I (a.tmod b)):=by
 have e:ze .rem .int (I a) (I b) K=(bif ieq b 0 then Out.no 5 else vz (a.tmod b) λz=>K (.int .i64 z)):=rfl;have h0:ieq b 0=false:=by rw [xA];exact Zab (by omega)
 rw [e,h0,cond_false,uR]
theorem zb1 {a b q r:Int} (hb:0<b) (h:a=q*b+r) (h0:0<=r) (h1:r<b):a / b=q/\a%b=r:=by
 subst h;refine ⟨?_,?_⟩
 .rw [Int.add_comm,Int.add_mul_ediv_right _ _ (by omega),Int.ediv_eq_zero_of_lt h0 h1,Int.zero_add]
 .rw [Int.add_comm,Int.add_mul_emod_self_right,Int.emod_eq_of_lt h0 h1]
theorem zet {a b:Int} (hb:1<=b):(a.tmod b<0->a / b=a.tdiv b-1/\a%b=a.tmod b+b /\ -b<a.tmod b)/\(0<=a.tmod b->a / b=a.tdiv b/\a%b=a.tmod b):=by
 have e:=Int.mul_tdiv_add_tmod a b;have h1:=Zgo a (show 0<b by omega);have h2 : -b<a.tmod b:=by
  have:=Zgo (-a) (show 0<b by omega);rw [Int.neg_tmod] at this;omega
 rw [Int.mul_comm] at e;refine ⟨λh => ?_,λh=>zb1 (by omega) e.symm h h1⟩;obtain ⟨c1,c2⟩:=zb1 (a:=a) (b:=b) (q:=a.tdiv b-1) (r:=a.tmod b+b) (by omega) (by rw [Int.sub_mul];omega) (by omega) (by omega);exact ⟨c1,c2,h2⟩
theorem zmu {a b:Int} (ha : -9223372036854775807<=a) (hb:1<=b) : -9223372036854775807<=a / b:=by
 refine (Int.le_ediv_iff_mul_le (by omega)).2 ?_;have:=Zdr hb (show (0:Int)<=9223372036854775807 by omega);omega
theorem dH {va vb:AV} {a b:Int} (hva:wm va a) (hvb:wm vb b) (hb:1<=b):Pure Tryz.prog B 201 [va,vb] (λv=>∃ v1 v2,v=.tup [v1,v2]/\wm v1 (a / b)/\wm v2 (a%b)):=by
 obtain ⟨s,w,rfl,rfl,rfl,hva⟩:=hva;obtain ⟨s',w',rfl,rfl,rfl,hvb⟩:=hvb;unfold rH at hva hvb;refine zT λh nx K H0 hK=>zN zP yD 100 λhf => ?_;rw [gu.go,gu.t29,zA,gu.zy];refine H0.box (l:=[I a,.za]) rfl λpa h1 nx1 H1 => ?_;refine H1.box (l:=[I b,.za]) rfl λpb h2 nx2 H2 => ?_;refine H2.alloc λp h3 nx3 H3 => ?_;refine H3.alloc λq h4 nx4 H4 => ?_;rw [zA,zA,gu.zx,gu.tX,gu.tY,sFx,H4.load (k:=3) (i:=0+1) (v:=.za) rfl rfl,uM];simp only [yL];rw [sFx,H4.load (k:=2) (i:=0+1) (v:=.za) rfl rfl,uM,zW,gu.eF,gu.tK];simp only [yL];rw [sFx,H4.load (k:=3) (i:=0+0) rfl rfl,fV,zW,zB,gu.v15];rw [Zab (by omega),Zal,zC,zA,gu.jb,sFx,H4.load (k:=3) (i:=0+0) rfl rfl,sFx,H4.load (k:=2) (i:=0+0) rfl rfl,zkt (by omega) hb,sFx,H4.load (k:=3) (i:=0+0) rfl rfl,sFx,H4.load (k:=2) (i:=0+0) rfl rfl,ztr hb,zA,zA,gu.dw,jq,zB,gu.v16];obtain ⟨f1,f2⟩:=zet (a:=a) hb;have hq2 : -9223372036854775807<=a.tdiv b/\a.tdiv b<=9223372036854775807:=by
  have:=Int.natAbs_tdiv_le_natAbs a b;omega
 have hmod:=Int.emod_nonneg a (show b≠0 by omega);have hmod2:=Int.emod_lt_of_pos a (show 0<b by omega);have hrt:=Int.mul_tdiv_add_tmod a b;have hr1 : -b<a.tmod b:=by
  by_cases cr:a.tmod b<0
  .exact (f1 cr).2.2
  .omega
 have hr2:=Zgo a (show 0<b by omega);have hqm : -9223372036854775807<=a / b:=zmu (by omega) hb;by_cases cr:a.tmod b<0
 .obtain ⟨g1,g2,g3⟩:=f1 cr;rw [Zac cr,zC,gu.rD,dz (by omega),sFx,H4.load (k:=2) (i:=0+0) rfl rfl,um (by omega),zA,gu.fU,uO,uO];simp only [zE,zM];refine H4.yx (l2:=[I (a.tdiv b-1),.za]) (k:=1) rfl rfl rfl λh6 H6 => ?_;refine H6.yx (l2:=[I (a.tmod b+b),.za]) (k:=0) rfl rfl rfl λh7 H7 => ?_;rw [gu.ret,H7.zk (k:=1) (n:=2) rfl rfl,H7.zk (k:=0) (n:=2) rfl rfl];exact hK _ _ _ _ _ H7 (jP (yV (by unfold rH;omega)).frz (yV (by unfold rH;omega)).frz) ⟨_,_,rfl,by rw [g1];exact yV (by unfold rH;omega),by rw [g2];exact yV (by unfold rH;omega)⟩
 .obtain ⟨g1,g2⟩:=f2 (by omega);rw [Zab cr,zD,zG,zA,gu.fU,uO,uO];simp only [zE,zM];refine H4.yx (l2:=[I (a.tdiv b),.za]) (k:=1) rfl rfl rfl λh6 H6 => ?_;refine H6.yx (l2:=[I (a.tmod b),.za]) (k:=0) rfl rfl rfl λh7 H7 => ?_;rw [gu.ret,H7.zk (k:=1) (n:=2) rfl rfl,H7.zk (k:=0) (n:=2) rfl rfl];exact hK _ _ _ _ _ H7 (jP (yV (by unfold rH;omega)).frz (yV (by unfold rH;omega)).frz) ⟨_,_,rfl,by rw [g1];exact yV (by unfold rH;omega),by rw [g2];exact yV (by unfold rH;omega)⟩
theorem zku {va vb:AV} {a b c:Int} (hva:wm va a) (hvb:wm vb b) (hb:b≠0) (hc:a=c*b):Pure Tryz.prog B 259 [va,vb] (λv=>wm v c):=by
 have oN:=hva;have eH:=hvb;obtain ⟨s,w,rfl,hva⟩:=hva;obtain ⟨s',w',rfl,hvb⟩:=hvb;refine zT λh nx K H0 hK=>zN zP yD 100 λhf => ?_;rw [qw.go,qw.t10,zA,qw.zy];refine H0.box (l:=[s,w]) rfl λpa h1 nx1 H1 => ?_;refine H1.box (l:=[s',w']) rfl λpb h2 nx2 H2 => ?_;refine H2.alloc λp h3 nx3 H3 => ?_
 have tail:∀ {h5:T Blk} {nx5:Pa} {s1 w1 s2 w2:AV} {a' b':Int} {x5 x6:AV},Hp h h5 nx5 [.arr p [I 0,.za],.arr pb [s2,w2],.arr pa [s1,w1]]->qm s1 w1 a'->qm s2 w2 b'->1<=b'->a'=c*b' ->
   IR.run qw.t8 (CS Tryz.prog B) 100 (fnO qw.res K) (zo qw.res K) (qw.fr (.agg [s,w]) (.agg [s',w']) (.ptr pa 0) (.ptr pb 0) (.ptr p 0) x5 x6) h5 nx5=.ok True:=by
  intro h5 nx5 s1 w1 s2 w2 a' b' x5 x6 H i1 i2 hb' e;rw [qw.t8,zA,qw.rE,H.zk (k:=2) (n:=2) rfl rfl,H.zk (k:=1) (n:=2) rfl rfl];refine dH ⟨_,_,rfl,i1⟩ ⟨_,_,rfl,i2⟩ hb' _ _ _ _ ?_;rintro _ ⟨v1,v2,rfl,⟨s3,w3,rfl,i3⟩,⟨s4,w4,rfl,i4⟩⟩ _;rw [jB,jC];refine H.alloc λp1 h6 nx6 H6 => ?_;refine H6.alloc λq1 h7 nx7 H7 => ?_;refine H7.yx (l2:=[s3,w3]) (k:=1) rfl rfl rfl λh8 H8 => ?_;refine H8.yx (l2:=[s4,w4]) (k:=0) rfl rfl rfl λh9 H9 => ?_;rw [zA,qw.qg,H9.zk (k:=1) (n:=2) rfl rfl];refine H9.yx (l2:=[s3,w3]) (k:=2) rfl rfl rfl λh10 H10 => ?_;simp only [zE,zM];rw [qw.ret,H10.zk (k:=2) (n:=2) rfl rfl];have:a' / b'=c:=by rw [e];exact Int.mul_ediv_cancel _ (by omega)
  rw [this] at i3;exact hK _ _ _ _ _ H10 (uL i3.fix) ⟨_,_,rfl,i3⟩
 rw [zA,zA,qw.zx,H3.zk (k:=1) (n:=2) rfl rfl];refine dS eH _ _ _ _ ?_;rintro _ rfl _;rw [jq,zB,qw.v6];by_cases cb:b<0
 .rw [Zac (by unfold j4;rw [if_pos cb];decide),zC,qw.jb,H3.zk (k:=2) (n:=2) rfl rfl,H3.zk (k:=1) (n:=2) rfl rfl];refine xM oN _ _ _ _ ?_;rintro _ ⟨s3,w3,rfl,i3⟩ _;rw [H3.zk (k:=1) (n:=2) rfl rfl,zH];refine xM eH _ _ _ _ ?_;rintro _ ⟨s4,w4,rfl,i4⟩ _;refine H3.yx (l2:=[s3,w3]) (k:=2) rfl rfl rfl λh8 H8 => ?_;refine H8.yx (l2:=[s4,w4]) (k:=1) rfl rfl rfl λh9 H9 => ?_;exact tail H9 i3 i4 (by omega) (by rw [hc,Int.mul_neg])
 .rw [Zab (by unfold j4;rw [if_neg cb];split <;> decide),zD,zG];exact tail H3 hva hvb (by omega) hc
theorem qm.sgn {s w:AV} {z:Int} (h:qm s w z):∃ n,s=I n/\(n<0↔z<0):=by
 obtain ⟨rfl,_⟩:=h;exact ⟨_,rfl,Iff.rfl⟩
theorem zhc {v:AV} {z:Int} (hv:wm v z):Pure Tryz.prog B 299 [v] (λv=>wm v (z.natAbs:Int)):=by
 have hv0:=hv;obtain ⟨s,w,rfl,hv⟩:=hv;obtain ⟨n,rfl,hn⟩:=hv.sgn;refine zT λh nx K H0 hK=>zN zP yD 100 λhf => ?_;rw [di.go,di.t9,zA,di.zy];refine H0.box (l:=[I n,w]) rfl λpa h1 nx1 H1 => ?_;refine H1.alloc λp h2 nx2 H2 => ?_;rw [zA,zA,di.zx,sFx,H2.load (k:=1) (i:=0+0) rfl rfl,jq,zB,di.v3];by_cases c:n<0
 .rw [Zac c,zC,zA,di.jb,H2.zk (k:=1) (n:=2) rfl rfl];refine xM hv0 _ _ _ _ ?_;rintro _ ⟨s',w',rfl,hc⟩ _;refine H2.yx (l2:=[s',w']) (k:=0) rfl rfl rfl λh4 H4 => ?_;simp only [zE,zM];rw [di.ret,H4.zk (k:=0) (n:=2) rfl rfl];have:=hn.1 c;rw [show -z=(z.natAbs:Int) by omega] at hc;exact hK _ _ _ _ _ H4 (uL hc.fix) ⟨_,_,rfl,hc⟩
 .rw [Zab c,zD,zG,zA,di.qg,H2.zk (k:=1) (n:=2) rfl rfl];refine H2.yx (l2:=[I n,w]) (k:=0) rfl rfl rfl λh4 H4 => ?_;simp only [zE,zM];rw [di.ret,H4.zk (k:=0) (n:=2) rfl rfl];have:¬ z<0:=λq=>c (hn.2 q);rw [show z=(z.natAbs:Int) by omega] at hv;exact hK _ _ _ _ _ H4 (uL hv.fix) ⟨_,_,rfl,hv⟩
theorem zq1 {va vb:AV} {a b:Int} (hva:wm va a) (hvb:wm vb b):Pure Tryz.prog B 258 [va,vb] (λv=>wm v (Int.gcd a b:Int)):=by
 have oN:=hva;have eH:=hvb;obtain ⟨s,w,rfl,hva⟩:=hva;obtain ⟨s',w',rfl,hvb⟩:=hvb;refine zT λh nx K H0 hK=>zN zP yD (b.natAbs+100) λhf => ?_;rw [uo.go,uo.t16,zA,uo.zy];refine H0.box (l:=[s,w]) rfl λpa h1 nx1 H1 => ?_;refine H1.box (l:=[s',w']) rfl λpb h2 nx2 H2 => ?_;refine H2.alloc λp h3 nx3 H3 => ?_;rw [zA,uo.zx,H3.zk (k:=2) (n:=2) rfl rfl,H3.zk (k:=1) (n:=2) rfl rfl];refine zhc oN _ _ _ _ ?_;rintro _ ⟨s1,w1,rfl,i1⟩ _;rw [H3.zk (k:=1) (n:=2) rfl rfl,zH];refine zhc eH _ _ _ _ ?_;rintro _ ⟨s2,w2,rfl,i2⟩ _;refine H3.yx (l2:=[s1,w1]) (k:=2) rfl rfl rfl λh4 H4 => ?_;refine H4.yx (l2:=[s2,w2]) (k:=1) rfl rfl rfl λh5 H5 => ?_;rw [zA,zJ];refine uo.znd (λm h' nx'=>∃ (x y:Nat) (s1 w1 s2 w2:AV),qm s1 w1 (x:Int)/\qm s2 w2 (y:Int)/\m=y/\Nat.gcd x y=Int.gcd a b/\Hp h h' nx' [.arr p [I 0,.za],.arr pb [s2,w2],.arr pa [s1,w1]]) (m:=b.natAbs) (by omega) ⟨a.natAbs,b.natAbs,s1,w1,s2,w2,i1,i2,rfl,rfl,H5⟩ ?_;rintro m z5 z6 h6 nx6 R ⟨x,y,s1,w1,s2,w2,i1,i2,rfl,hg,H6⟩ hR;rw [uo.t9,zA,zA,uo.jb,H6.zk (k:=1) (n:=2) rfl rfl];refine dS ⟨_,_,rfl,i2⟩ _ _ _ _ ?_;rintro _ rfl _;rw [fV,zB,uo.v6];by_cases c:m=0
 .subst c;rw [Zac (by rfl),Zap,zD,zV,yC,zA,uo.ni,H6.zk (k:=2) (n:=2) rfl rfl];refine H6.yx (l2:=[s1,w1]) (k:=0) rfl rfl rfl λh7 H7 => ?_;simp only [zE,zM];rw [uo.ret,H7.zk (k:=0) (n:=2) rfl rfl];rw [Zgn] at hg;rw [hg] at i1;exact hK _ _ _ _ _ H7 (uL i1.fix) ⟨_,_,rfl,i1⟩
 .have hs:j4 (m:Int)=1:=by unfold j4;rw [if_neg (by omega),if_pos (by omega)]
  rw [hs,Zab (by decide),Zal,zC,zG,zJ,zA,uo.rE,H6.zk (k:=2) (n:=2) rfl rfl,H6.zk (k:=1) (n:=2) rfl rfl];refine dH ⟨_,_,rfl,i1⟩ ⟨_,_,rfl,i2⟩ (by omega) _ _ _ _ ?_;rintro _ ⟨v1,v2,rfl,⟨s3,w3,rfl,i3⟩,⟨s4,w4,rfl,i4⟩⟩ _;rw [jB,jC];refine H6.alloc λp1 h7 nx7 H7 => ?_;refine H7.alloc λq1 h8 nx8 H8 => ?_;refine H8.yx (l2:=[s3,w3]) (k:=1) rfl rfl rfl λh9 H9 => ?_;refine H9.yx (l2:=[s4,w4]) (k:=0) rfl rfl rfl λh10 H10 => ?_;rw [uo.qg,H10.zk (k:=3) (n:=2) rfl rfl,H10.zk (k:=0) (n:=2) rfl rfl];refine H10.yx (l2:=[s2,w2]) (k:=4) rfl rfl rfl λh11 H11 => ?_;rw [H11.zk (k:=0) (n:=2) rfl rfl,zH];refine H11.yx (l2:=[s4,w4]) (k:=3) rfl rfl rfl λh12 H12 => ?_;rw [<- Int.natCast_emod] at i4;have hlt:=Zed x (show 0<m by omega);refine hR (x%m) _ _ _ _ hlt ⟨m,x%m,s2,w2,s4,w4,i2,i4,rfl,?_,H12.drop.drop⟩;rw [<- hg,Zfk x m,Nat.gcd_rec m x,Zfk]
theorem qm.two {s w:AV} {z:Int} (h:qm s w z):s=I z/\w=.za/\rH z/\∀ K:AV->OP,ze .eql (.nil .sl) w .za K=K (.bool true):=by
 obtain ⟨rfl,rfl,h⟩:=h;exact ⟨rfl,rfl,h,λ_=>uM⟩
theorem q0 {a b:Int} {M N:Nat} (ha:a.natAbs<=M) (hb:b.natAbs<=N) (h:M*N<=9223372036854775807):rH (a*b):=by
 have:=Zbk ha hb;rw [<- Zcc] at this;unfold rH;omega
theorem zhd {a b:Int} {M:Nat} (ha:a.natAbs<=M) (hb:b.natAbs<=M) (h:2*M<=9223372036854775807):rH (a+b):=by unfold rH;omega
def jk (M:Nat) (q:Rat):Prop:=q.num.natAbs<=M/\q.den<=M
theorem jk.mono {M N:Nat} {q:Rat} (h:jk M q) (hN:M<=N):jk N q:=⟨Zay h.1 hN,Zay h.2 hN⟩
theorem jk.neg {M:Nat} {q:Rat} (h:jk M q):jk M (-q):=⟨by rw [Zft,Zeg];exact h.1,by rw [Rat.neg_den];exact h.2⟩
theorem wY {t:T AV} {l:List AV} {off n:Nat} (h:yU t 0 l.length=l) (hle:off+n<=l.length):yU t off n=(l.drop off).take n:=by
 apply Zca;intro i;by_cases hi:i<n
 .rw [yK _ _ _ _ hi,List.getElem?_take_of_lt hi,List.getElem?_drop];have:=yK t 0 l.length (off+i) (by omega);rw [h,Zbl] at this;exact this.symm
 .rw [List.getElem?_eq_none (by rw [uH];omega),List.getElem?_eq_none (by simp;omega)]
theorem Hp.jg {h0 h:T Blk} {nx:Pa} {L:List Ob} {k n off:Nat} {id:Pa} {l l2:List AV} {op:AV->OP} (H:Hp h0 h nx L) (hk:L[k]? = some (.arr id l)) (hle:off+n<=l.length) (he:(l.drop off).take n=l2):zF n (.ptr id off) h op=op (.agg l2):=by
 obtain ⟨o,t,h1,h2⟩:=H.own _ (Zad hk);show qc (T.get .no id h) (λ_ m t=>bif Nat.ble (off+n) m then op (.agg (yU t off n)) else .no 8) (.no 9)=_;rw [h1];show (bif Nat.ble (off+n) l.length then op (.agg (yU t off n)) else .no 8)=_;rw [Zag hle,cond_true,wY h2 hle,he]
def yR (v:AV) (q:Rat):Prop:=∃ s w s' w',v=.agg [s,w,s',w']/\qm s w q.num/\qm s' w' (q.den:Int)
theorem qm.aJ {s w s' w':AV} {a b:Int} (h:qm s w a) (h':qm s' w' b):∀ v∈[s,w,s',w'],fP v=true:=by
 intro v hv;rcases List.mem_cons.1 hv with rfl | hv
 .exact h.fix _ (by simp)
 rcases List.mem_cons.1 hv with rfl | hv
 .exact h.fix _ (by simp)
 exact h'.fix _ hv
theorem qm.build {s w s' w':AV} {a b:Int} (h:qm s w a) (h':qm s' w' b) {K:AV->OP}:gU [(I 0),.za,(I 0),.za] [(0,2,.agg [s,w]),(2,2,.agg [s',w'])] K=K (.agg [s,w,s',w']):=nr rfl
theorem dE {v:AV} {q:Rat} (hv:yR v q):Pure Tryz.prog B 122 [v] (· = .bool (decide (q.den=1))):=by
 obtain ⟨s,w,s',w',rfl,h1,h2⟩:=hv;refine zT λh nx K H0 hK=>zN zP yD 100 λhf => ?_;rw [vw.go,vw.t3,zA,vw.zy];refine H0.box (l:=[s,w,s',w']) rfl λpa h1 nx1 H1 => ?_;rw [zA,vw.zx,vw.tX,vw.tY,sFx,sFx,H1.load (k:=0) (i:=0+2+1) (v:=w') rfl rfl];obtain ⟨rfl,rfl,_,e2⟩:=h2.two;rw [e2];simp only [yL];rw [sFx,sFx,H1.load (k:=0) (i:=0+2+0) rfl rfl,vw.eF,vw.tK];simp only [yL];rw [qx];simp only [zW];simp only [zE,zM];rw [vw.ret];exact hK _ _ _ _ _ H1 (zR rfl) (by congr 1;exact decide_eq_decide.2 (by omega))
theorem qL {n d:Int} (hd:0<d):(Rat.divInt n d).num=n / (Int.gcd n d:Int)/\((Rat.divInt n d).den:Int)=d / (Int.gcd n d:Int):=by
 refine ⟨?_,?_⟩
 .rw [Rat.num_divInt,Int.sign_eq_one_of_pos hd,Int.one_mul,Int.gcd_comm]
 .rw [Rat.den_divInt,if_neg (by omega),Int.gcd_comm,Int.natCast_ediv]
  congr 1
  omega
theorem zdc {z:Int}:((z:Rat)).num=z/\(((z:Rat)).den:Int)=1:=⟨Zel z,by rw [Zfg];rfl⟩
theorem zb2 {v:AV} {z:Int} (hv:wm v z):Pure Tryz.prog B 186 [v] (λv=>yR v (z:Rat)):=by
 obtain ⟨s,w,rfl,hv⟩:=hv;refine zT λh nx K H0 hK=>zN zP yD 100 λhf => ?_;rw [fM.go,fM.t3,zA,fM.zy];refine H0.box (l:=[s,w]) rfl λpa h1 nx1 H1 => ?_;refine H1.alloc λp h2 nx2 H2 => ?_;rw [zA,fM.zx,H2.zk (k:=1) (n:=2) rfl rfl];refine zqz (by unfold rH;omega) _ _ _ _ ?_;rintro _ ⟨s',w',rfl,h'⟩ _;rw [H2.zk (k:=1) (n:=2) rfl rfl,zH,hv.build h'];refine H2.yx (l2:=[s,w,s',w']) (k:=0) rfl rfl rfl λh4 H4 => ?_;simp only [zE,zM];rw [fM.ret,H4.zk (k:=0) (n:=4) rfl rfl];exact hK _ _ _ _ _ H4 (uL (hv.aJ h')) ⟨_,_,_,_,rfl,by rw [zdc.1];exact hv,by rw [zdc.2];exact h'⟩
theorem zb3 {z:Int} (h:rH z):Pure Tryz.prog B 96 [I z] (λv=>yR v (z:Rat)):=by
 refine zT λhh nx K H0 hK=>zN zP yD 100 λhf => ?_;rw [F96.go,F96.t3,zA,F96.zy];refine H0.alloc λp h2 nx2 H2 => ?_;rw [zA,F96.zx];refine zqz h _ _ _ _ ?_;intro v hv _;refine zb2 hv _ _ _ _ ?_;rintro _ ⟨s,w,s',w',rfl,i1,i2⟩ _;refine H2.yx (l2:=[s,w,s',w']) (k:=0) rfl rfl rfl λh4 H4 => ?_;simp only [zE,zM];rw [F96.ret,H4.zk (k:=0) (n:=4) rfl rfl];exact hK _ _ _ _ _ H4 (uL (i1.aJ i2)) ⟨_,_,_,_,rfl,i1,i2⟩
theorem cA {va vb:AV} {a b:Int} (hva:wm va a) (hvb:wm vb b) (hb:b≠0):Pure Tryz.prog B 195 [va,vb] (λv=>yR v (Rat.divInt a b)):=by
 have oN:=hva;have eH:=hvb;obtain ⟨s,w,rfl,hva⟩:=hva;obtain ⟨s',w',rfl,hvb⟩:=hvb;refine zT λh nx K H0 hK=>zN zP yD 100 λhf => ?_;rw [jr.go,jr.t16,zA,jr.zy];refine H0.box (l:=[s,w]) rfl λpa h1 nx1 H1 => ?_;refine H1.box (l:=[s',w']) rfl λpb h2 nx2 H2 => ?_;refine H2.alloc λp h3 nx3 H3 => ?_
 have tail:∀ {h5:T Blk} {nx5:Pa} {s1 w1 s2 w2:AV} {a' b':Int} {x5 x6 x7:AV},Hp h h5 nx5 [.arr p [I 0,.za,I 0,.za],.arr pb [s2,w2],.arr pa [s1,w1]]->qm s1 w1 a'->qm s2 w2 b'->1<=b'->Rat.divInt a' b'=Rat.divInt a b ->
   IR.run jr.t14 (CS Tryz.prog B) 100 (fnO jr.res K) (zo jr.res K) (jr.fr (.agg [s,w]) (.agg [s',w']) (.ptr pa 0) (.ptr pb 0) (.ptr p 0) x5 x6 x7) h5 nx5=.ok True:=by
  intro h5 nx5 s1 w1 s2 w2 a' b' x5 x6 x7 H i1 i2 hb' e;obtain ⟨d1,d2⟩:=qL (n:=a') (show 0<b' by omega);have general:∀ {x5 x6 x7:AV},IR.run jr.t13 (CS Tryz.prog B) 100 (fnO jr.res K) (zo jr.res K) (jr.fr (.agg [s,w]) (.agg [s',w']) (.ptr pa 0) (.ptr pb 0) (.ptr p 0) x5 x6 x7) h5 nx5=.ok True:=by
   intro x5 x6 x7;rw [jr.t13,zA,jr.sV,H.zk (k:=2) (n:=2) rfl rfl,H.zk (k:=1) (n:=2) rfl rfl];refine zq1 ⟨_,_,rfl,i1⟩ ⟨_,_,rfl,i2⟩ _ _ _ _ ?_;rintro _ ⟨s3,w3,rfl,i3⟩ _;have g0:0<Int.gcd a' b':=Int.gcd_pos_of_ne_zero_right _ (by omega);refine H.alloc λp1 h6 nx6 H6 => ?_;refine H6.yx (l2:=[s3,w3]) (k:=0) rfl rfl rfl λh7 H7 => ?_;rw [zA,jr.pu,H7.zk (k:=3) (n:=2) rfl rfl,H7.zk (k:=0) (n:=2) rfl rfl,H7.zk (k:=2) (n:=2) rfl rfl,H7.zk (k:=0) (n:=2) rfl rfl];refine zku (c:=a' / (Int.gcd a' b':Int)) ⟨_,_,rfl,i1⟩ ⟨_,_,rfl,i3⟩  (by omega) (Int.ediv_mul_cancel (Zfz ..)).symm _ _ _ _ ?_;rintro _ ⟨s4,w4,rfl,i4⟩ _;rw [H7.zk (k:=0) (n:=2) rfl rfl,zH,H7.zk (k:=2) (n:=2) rfl rfl,zH];refine zku (c:=b' / (Int.gcd a' b':Int)) ⟨_,_,rfl,i2⟩ ⟨_,_,rfl,i3⟩  (by omega) (Int.ediv_mul_cancel (Zgt ..)).symm _ _ _ _ ?_;rintro _ ⟨s5,w5,rfl,i5⟩ _;rw [i4.build i5];refine H7.yx (l2:=[s4,w4,s5,w5]) (k:=1) rfl rfl rfl λh8 H8 => ?_;simp only [zE,zM];rw [jr.ret,H8.zk (k:=1) (n:=4) rfl rfl];exact hK _ _ _ _ _ H8 (uL (i4.aJ i5)) ⟨_,_,_,_,rfl,by rw [<- e,d1];exact i4,by rw [<- e,d2];exact i5⟩
  rw [jr.t14,zA,zA,jr.rE,sFx,H.load (k:=1) (i:=0+1) (v:=w2) rfl rfl];obtain ⟨rfl,rfl,_,e2⟩:=i2.two
  .rw [e2];simp only [yL];rw [sFx,H.load (k:=1) (i:=0+0) rfl rfl,qx,zW,zB,jr.v7];by_cases c:b'=1
   .subst c;rw [Zac rfl,zC,zA,jr.qg,H.zk (k:=2) (n:=2) rfl rfl,H.zk (k:=1) (n:=2) rfl rfl,i1.build i2];refine H.yx (l2:=[s1,w1,I 1,.za]) (k:=0) rfl rfl rfl λh8 H8 => ?_;simp only [zE,zM];rw [jr.ret,H8.zk (k:=0) (n:=4) rfl rfl];rw [Int.gcd_one] at d1 d2;exact hK _ _ _ _ _ H8 (uL (i1.aJ i2)) ⟨_,_,_,_,rfl,by rw [<- e,d1];simpa using i1,by rw [<- e,d2];simpa using i2⟩
   .rw [Zab c,zD,zG];exact general
 rw [zA,zA,jr.zx,H3.zk (k:=1) (n:=2) rfl rfl];refine dS eH _ _ _ _ ?_;rintro _ rfl _;rw [jq,zB,jr.v6];by_cases cb:b<0
 .rw [Zac (by unfold j4;rw [if_pos cb];decide),zC,jr.jb,H3.zk (k:=2) (n:=2) rfl rfl,H3.zk (k:=1) (n:=2) rfl rfl];refine xM oN _ _ _ _ ?_;rintro _ ⟨s3,w3,rfl,i3⟩ _;rw [H3.zk (k:=1) (n:=2) rfl rfl,zH];refine xM eH _ _ _ _ ?_;rintro _ ⟨s4,w4,rfl,i4⟩ _;refine H3.yx (l2:=[s3,w3]) (k:=2) rfl rfl rfl λh8 H8 => ?_;refine H8.yx (l2:=[s4,w4]) (k:=1) rfl rfl rfl λh9 H9 => ?_;exact tail H9 i3 i4 (by omega) (Rat.neg_divInt_neg ..)
 .rw [Zab (by unfold j4;rw [if_neg cb];split <;> decide),zD,zG];exact tail H3 hva hvb (by omega) rfl
theorem zeu (op:KW3->OP) (h:T Blk) (nx:Pa) (k:KW3):sGW (.bool true) true op h nx k=op k:=nr rfl
theorem zjg (op:KW3->OP) (h:T Blk) (nx:Pa) (k:KW3):sGW (.bool false) true op h nx k=k .u h nx:=nr rfl
theorem u7 (q:Rat):Rat.divInt q.num (q.den:Int)=q:=Rat.num_divInt_den q
theorem uC (q:Rat):(q.den:Int)≠0:=by have:=q.den_nz;omega
theorem zdd (a b:Rat):Rat.divInt (a.num*b.num) ((a.den:Int)*(b.den:Int))=a*b:=by
 rw [<- Rat.divInt_mul_divInt,u7,u7]
theorem zde (a b:Rat):Rat.divInt (a.num*(b.den:Int)+b.num*(a.den:Int)) ((a.den:Int)*(b.den:Int))=a+b:=by
 rw [<- Rat.divInt_add_divInt _ _ (uC a) (uC b),u7,u7]
theorem cQ {q:Rat} (h:q.den=1):((q.num:Int):Rat)=q:=Rat.ext (Zel _) (by rw [Zfg,h])
theorem zev (a b:Rat):a=b↔a.num*(b.den:Int)=b.num*(a.den:Int):=by
 have:=Rat.divInt_eq_divInt_iff (n₁:=a.num) (n₂:=b.num) (uC a) (uC b)
 rwa [u7,u7] at this
theorem fe {z:Int}:j4 z=0↔z=0:=by unfold j4;split <;> (try split) <;> constructor <;> intro <;> omega
theorem xP {v:AV} {q:Rat} (hv:yR v q):Pure Tryz.prog B 110 [v] (· = I (j4 q.num)):=by
 obtain ⟨s,w,s',w',rfl,i1,i2⟩:=hv;refine zT λh nx K H0 hK=>zN zP yD 100 λhf => ?_;rw [nu.go,nu.t3,zA,nu.zy];refine H0.box (l:=[s,w,s',w']) rfl λpa h1 nx1 H1 => ?_;rw [zA,nu.zx,sFx,H1.jg (k:=0) (l2:=[s,w]) rfl (by simp) rfl];refine dS ⟨_,_,rfl,i1⟩ _ _ _ _ ?_;rintro _ rfl _;simp only [zE,zM];rw [nu.ret];exact hK _ _ _ _ _ H1 (zR rfl) rfl
theorem zdf {v:AV} {q:Rat} (hv:yR v q):Pure Tryz.prog B 107 [v] (λv=>yR v (-q)):=by
 obtain ⟨s,w,s',w',rfl,i1,i2⟩:=hv;refine zT λh nx K H0 hK=>zN zP yD 100 λhf => ?_;rw [ny.go,ny.t3,zA,ny.zy];refine H0.box (l:=[s,w,s',w']) rfl λpa h1 nx1 H1 => ?_;refine H1.alloc λp h2 nx2 H2 => ?_;have ln:∀ op:AV->OP,zF 2 (.ptr pa (0+0)) h2 op=op (.agg [s,w]):=λop=>H2.jg (k:=1) rfl (by simp) rfl;have ld:∀ op:AV->OP,zF 2 (.ptr pa (0+2)) h2 op=op (.agg [s',w']):=λop=>H2.jg (k:=1) rfl (by simp) rfl;rw [zA,ny.zx,sFx,ln,sFx,ld];refine xM ⟨_,_,rfl,i1⟩ _ _ _ _ ?_;rintro _ ⟨s3,w3,rfl,i3⟩ _;rw [ld,zH,sFx,zH,i3.build i2];refine H2.yx (l2:=[s3,w3,s',w']) (k:=0) rfl rfl rfl λh4 H4 => ?_;simp only [zE,zM];rw [ny.ret,H4.zk (k:=0) (n:=4) rfl rfl];exact hK _ _ _ _ _ H4 (uL (i3.aJ i2)) ⟨_,_,_,_,rfl,by rw [Zft];exact i3,by rw [Rat.neg_den];exact i2⟩
theorem zdg {v:AV} {q:Rat} (hv:yR v q) (h0:q≠0):Pure Tryz.prog B 112 [v] (λv=>yR v q⁻¹):=by
 obtain ⟨s,w,s',w',rfl,i1,i2⟩:=hv;refine zT λh nx K H0 hK=>zN zP yD 100 λhf => ?_;rw [nP.go,nP.t3,zA,nP.zy];refine H0.box (l:=[s,w,s',w']) rfl λpa h1 nx1 H1 => ?_;refine H1.alloc λp h2 nx2 H2 => ?_;have ln:∀ op:AV->OP,zF 2 (.ptr pa (0+0)) h2 op=op (.agg [s,w]):=λop=>H2.jg (k:=1) rfl (by simp) rfl;have ld:∀ op:AV->OP,zF 2 (.ptr pa (0+2)) h2 op=op (.agg [s',w']):=λop=>H2.jg (k:=1) rfl (by simp) rfl;rw [zA,nP.zx,sFx,ld,sFx,ln];refine cA ⟨_,_,rfl,i2⟩ ⟨_,_,rfl,i1⟩ (λe=>h0 (Rat.num_eq_zero.1 e)) _ _ _ _ ?_;rintro _ ⟨s3,w3,s4,w4,rfl,i3,i4⟩ _;refine H2.yx (l2:=[s3,w3,s4,w4]) (k:=0) rfl rfl rfl λh4 H4 => ?_;simp only [zE,zM];rw [nP.ret,H4.zk (k:=0) (n:=4) rfl rfl];rw [<- Rat.inv_def] at i3 i4;exact hK _ _ _ _ _ H4 (uL (i3.aJ i4)) ⟨_,_,_,_,rfl,i3,i4⟩
theorem mY {va vb:AV} {a b:Rat} {M N:Nat} (hva:yR va a) (hvb:yR vb b) (ha:jk M a) (hb:jk N b) (h:M*N<=9223372036854775807):Pure Tryz.prog B 119 [va,vb] (λv=>yR v (a*b)):=by
 obtain ⟨s,w,s',w',rfl,i1,i2⟩:=hva;obtain ⟨t,u,t',u',rfl,j1,j2⟩:=hvb;refine zT λhh nx K H0 hK=>zN zP yD 100 λhf => ?_;rw [nQ.go,nQ.t3,zA,nQ.zy];refine H0.box (l:=[s,w,s',w']) rfl λpa h1 nx1 H1 => ?_;refine H1.box (l:=[t,u,t',u']) rfl λpb h2 nx2 H2 => ?_;refine H2.alloc λp h3 nx3 H3 => ?_;have an:∀ op:AV->OP,zF 2 (.ptr pa (0+0)) h3 op=op (.agg [s,w]):=λop=>H3.jg (k:=2) rfl (by simp) rfl;have ad:∀ op:AV->OP,zF 2 (.ptr pa (0+2)) h3 op=op (.agg [s',w']):=λop=>H3.jg (k:=2) rfl (by simp) rfl;have bn:∀ op:AV->OP,zF 2 (.ptr pb (0+0)) h3 op=op (.agg [t,u]):=λop=>H3.jg (k:=1) rfl (by simp) rfl;have bd:∀ op:AV->OP,zF 2 (.ptr pb (0+2)) h3 op=op (.agg [t',u']):=λop=>H3.jg (k:=1) rfl (by simp) rfl;rw [zA,nQ.zx,sFx,an,sFx,bn,sFx,ad,sFx,bd];refine q9 ⟨_,_,rfl,i1⟩ ⟨_,_,rfl,j1⟩ (q0 ha.1 hb.1 h) _ _ _ _ ?_;intro v1 hv1 _;rw [bd,zH,sFx,zH,ad,zH,sFx,zH];refine q9 ⟨_,_,rfl,i2⟩ ⟨_,_,rfl,j2⟩ (q0 (M:=M) (N:=N) ha.2 hb.2 h) _ _ _ _ ?_;intro v2 hv2 _;refine cA hv1 hv2 (Int.mul_ne_zero (uC a) (uC b)) _ _ _ _ ?_;rintro _ ⟨s3,w3,s4,w4,rfl,i3,i4⟩ _;refine H3.yx (l2:=[s3,w3,s4,w4]) (k:=0) rfl rfl rfl λh4 H4 => ?_;simp only [zE,zM];rw [nQ.ret,H4.zk (k:=0) (n:=4) rfl rfl];rw [zdd] at i3 i4;exact hK _ _ _ _ _ H4 (uL (i3.aJ i4)) ⟨_,_,_,_,rfl,i3,i4⟩
theorem zb4 {va vb:AV} {a b:Rat} {M N:Nat} (hva:yR va a) (hvb:yR vb b) (ha:jk M a) (hb:jk N b) (h:2*(M*N)<=9223372036854775807):Pure Tryz.prog B 114 [va,vb] (λv=>yR v (a+b)):=by
 have oN:=hva;have eH:=hvb;obtain ⟨s,w,s',w',rfl,i1,i2⟩:=hva;obtain ⟨t,u,t',u',rfl,j1,j2⟩:=hvb;refine zT λhh nx K H0 hK=>zN zP yD 100 λhf => ?_;rw [wu.go,wu.t9,zA,wu.zy];refine H0.box (l:=[s,w,s',w']) rfl λpa h1 nx1 H1 => ?_;refine H1.box (l:=[t,u,t',u']) rfl λpb h2 nx2 H2 => ?_;refine H2.alloc λp h3 nx3 H3 => ?_;have an:∀ op:AV->OP,zF 2 (.ptr pa (0+0)) h3 op=op (.agg [s,w]):=λop=>H3.jg (k:=2) rfl (by simp) rfl;have ad:∀ op:AV->OP,zF 2 (.ptr pa (0+2)) h3 op=op (.agg [s',w']):=λop=>H3.jg (k:=2) rfl (by simp) rfl;have bn:∀ op:AV->OP,zF 2 (.ptr pb (0+0)) h3 op=op (.agg [t,u]):=λop=>H3.jg (k:=1) rfl (by simp) rfl;have bd:∀ op:AV->OP,zF 2 (.ptr pb (0+2)) h3 op=op (.agg [t',u']):=λop=>H3.jg (k:=1) rfl (by simp) rfl;have general:∀ {x5:AV},IR.run wu.t7 (CS Tryz.prog B) 100 (fnO wu.res K) (zo wu.res K) (wu.fr (.agg [s,w,s',w']) (.agg [t,u,t',u']) (.ptr pa 0) (.ptr pb 0) (.ptr p 0) x5) h3 nx3=.ok True:=by
  intro x5;rw [wu.t7,zA,wu.qg,sFx,an,sFx,bd,sFx,bn,sFx,ad,sFx,ad,sFx,bd];refine q9 ⟨_,_,rfl,i1⟩ ⟨_,_,rfl,j2⟩ (q0 ha.1 (show Int.natAbs (b.den:Int)<=N from hb.2) (by omega)) _ _ _ _ ?_;intro v1 hv1 _;rw [bd,zH,sFx,zH,ad,zH,sFx,zH,ad,zH,sFx,zH,bn,zH,sFx,zH];refine q9 ⟨_,_,rfl,j1⟩ ⟨_,_,rfl,i2⟩ (q0 hb.1 (show Int.natAbs (a.den:Int)<=M from ha.2) (by rw [Zcm];omega)) _ _ _ _ ?_;intro v2 hv2 _;rw [bd,zH,sFx,zH,ad,zH,sFx,zH];refine zks hv1 hv2 (zhd (M:=M*N) (by rw [Zcc];exact Zbk ha.1 hb.2) (by rw [Zcc,Zcm M N];exact Zbk hb.1 ha.2) h) _ _ _ _ ?_;intro v3 hv3 _;rw [bd,zH,sFx,zH,ad,zH,sFx,zH];refine q9 ⟨_,_,rfl,i2⟩ ⟨_,_,rfl,j2⟩ (q0 (M:=M) (N:=N) ha.2 hb.2 (by omega)) _ _ _ _ ?_;intro v4 hv4 _;refine cA hv3 hv4 (Int.mul_ne_zero (uC a) (uC b)) _ _ _ _ ?_;rintro _ ⟨s3,w3,s4,w4,rfl,i3,i4⟩ _;refine H3.yx (l2:=[s3,w3,s4,w4]) (k:=0) rfl rfl rfl λh4 H4 => ?_;simp only [zE,zM];rw [wu.ret,H4.zk (k:=0) (n:=4) rfl rfl];rw [zde] at i3 i4;exact hK _ _ _ _ _ H4 (uL (i3.aJ i4)) ⟨_,_,_,_,rfl,i3,i4⟩
 rw [zA,zA,wu.zx,H3.zk (k:=2) (n:=4) rfl rfl];refine dE oN _ _ _ _ ?_;rintro _ rfl _;by_cases ca:a.den=1
 .rw [Zac ca];simp only [yL];rw [H3.zk (k:=1) (n:=4) rfl rfl,zeu];refine dE eH _ _ _ _ ?_;rintro _ rfl _;rw [zW,zB,wu.v5];by_cases cb:b.den=1
  .rw [Zac cb,zC,zA,wu.jb,sFx,an,sFx,bn];refine zks ⟨_,_,rfl,i1⟩ ⟨_,_,rfl,j1⟩ (zhd (M:=M*N) (Zay ha.1 (Nat.le_mul_of_pos_right M (by have:=hb.2;have:=b.den_pos;omega))) (Zay hb.1 (Nat.le_mul_of_pos_left N (by have:=ha.2;have:=a.den_pos;omega))) h) _ _ _ _ ?_;intro v1 hv1 _;refine zb2 hv1 _ _ _ _ ?_;rintro _ ⟨s3,w3,s4,w4,rfl,i3,i4⟩ _;refine H3.yx (l2:=[s3,w3,s4,w4]) (k:=0) rfl rfl rfl λh4 H4 => ?_;simp only [zE,zM];rw [wu.ret,H4.zk (k:=0) (n:=4) rfl rfl];have e:((a.num+b.num:Int):Rat)=a+b:=by rw [Zfh,cQ ca,cQ cb]
   rw [e] at i3 i4;exact hK _ _ _ _ _ H4 (uL (i3.aJ i4)) ⟨_,_,_,_,rfl,i3,i4⟩
  .rw [Zab cb,zD,zG];exact general
 .rw [Zab ca];simp only [jF];rw [zjg,zZ,zB,wu.v5,zD,zG];exact general
theorem zmv {va vb:AV} {a b:Rat} {M N:Nat} (hva:yR va a) (hvb:yR vb b) (ha:jk M a) (hb:jk N b) (h:2*(M*N)<=9223372036854775807):Pure Tryz.prog B 192 [va,vb] (λv=>yR v (a-b)):=by
 have oN:=hva;have eH:=hvb;obtain ⟨s,w,s',w',rfl,i1,i2⟩:=hva;obtain ⟨t,u,t',u',rfl,j1,j2⟩:=hvb;refine zT λhh nx K H0 hK=>zN zP yD 100 λhf => ?_;rw [nR.go,nR.t3,zA,nR.zy];refine H0.box (l:=[s,w,s',w']) rfl λpa h1 nx1 H1 => ?_;refine H1.box (l:=[t,u,t',u']) rfl λpb h2 nx2 H2 => ?_;refine H2.alloc λp h3 nx3 H3 => ?_;rw [zA,nR.zx,H3.zk (k:=2) (n:=4) rfl rfl,H3.zk (k:=1) (n:=4) rfl rfl];refine zdf eH _ _ _ _ ?_;intro v1 hv1 _;rw [H3.zk (k:=2) (n:=4) rfl rfl,zH];refine zb4 oN hv1 ha hb.neg h _ _ _ _ ?_;rintro _ ⟨s3,w3,s4,w4,rfl,i3,i4⟩ _;refine H3.yx (l2:=[s3,w3,s4,w4]) (k:=0) rfl rfl rfl λh4 H4 => ?_;simp only [zE,zM];rw [nR.ret,H4.zk (k:=0) (n:=4) rfl rfl];rw [<- Zfl] at i3 i4;exact hK _ _ _ _ _ H4 (uL (i3.aJ i4)) ⟨_,_,_,_,rfl,i3,i4⟩
theorem jk.inv {M:Nat} {q:Rat} (h:jk M q):jk M q⁻¹:=by
 have h1:(q⁻¹).num.natAbs<=q.den/\(q⁻¹).den<=max 1 q.num.natAbs:=by
  rw [Rat.inv_def];by_cases c:q.num=0
  .rw [c];have e:Rat.divInt (q.den:Int) 0=0:=by simp
   rw [e];exact ⟨by simp,by simp⟩
  .refine ⟨?_,?_⟩
   .rw [Rat.num_divInt];refine Zay (Int.natAbs_ediv_le_natAbs _ _) ?_;rw [Zcc,Int.natAbs_sign_of_ne_zero c,Zcv,Zbq];exact Zaf _
   .rw [Rat.den_divInt,if_neg c];refine Zay (Zdq _ _) ?_;omega
 obtain ⟨a,b⟩:=h;have:=q.den_pos;exact ⟨by omega,by omega⟩
theorem zhe {va vb:AV} {a b:Rat} {M N:Nat} (hva:yR va a) (hvb:yR vb b) (ha:jk M a) (hb:jk N b) (h:M*N<=9223372036854775807) (h0:b≠0):Pure Tryz.prog B 115 [va,vb] (λv=>yR v (a / b)):=by
 have oN:=hva;have eH:=hvb;obtain ⟨s,w,s',w',rfl,i1,i2⟩:=hva;obtain ⟨t,u,t',u',rfl,j1,j2⟩:=hvb;refine zT λhh nx K H0 hK=>zN zP yD 100 λhf => ?_;rw [nS.go,nS.t3,zA,nS.zy];refine H0.box (l:=[s,w,s',w']) rfl λpa h1 nx1 H1 => ?_;refine H1.box (l:=[t,u,t',u']) rfl λpb h2 nx2 H2 => ?_;refine H2.alloc λp h3 nx3 H3 => ?_;rw [zA,nS.zx,H3.zk (k:=2) (n:=4) rfl rfl,H3.zk (k:=1) (n:=4) rfl rfl];refine zdg eH h0 _ _ _ _ ?_;intro v1 hv1 _;rw [H3.zk (k:=2) (n:=4) rfl rfl,zH];refine mY oN hv1 ha hb.inv h _ _ _ _ ?_;rintro _ ⟨s3,w3,s4,w4,rfl,i3,i4⟩ _;refine H3.yx (l2:=[s3,w3,s4,w4]) (k:=0) rfl rfl rfl λh4 H4 => ?_;simp only [zE,zM];rw [nS.ret,H4.zk (k:=0) (n:=4) rfl rfl];rw [<- Zfc] at i3 i4;exact hK _ _ _ _ _ H4 (uL (i3.aJ i4)) ⟨_,_,_,_,rfl,i3,i4⟩
theorem zmw {va vb:AV} {a b:Rat} {M N:Nat} (hva:yR va a) (hvb:yR vb b) (ha:jk M a) (hb:jk N b) (h:M*N<=9223372036854775807):Pure Tryz.prog B 200 [va,vb] (· = I (j4 (a.num*(b.den:Int)-b.num*(a.den:Int)))):=by
 obtain ⟨s,w,s',w',rfl,i1,i2⟩:=hva;obtain ⟨t,u,t',u',rfl,j1,j2⟩:=hvb;refine zT λhh nx K H0 hK=>zN zP yD 100 λhf => ?_;rw [nT.go,nT.t3,zA,nT.zy];refine H0.box (l:=[s,w,s',w']) rfl λpa h1 nx1 H1 => ?_;refine H1.box (l:=[t,u,t',u']) rfl λpb h3 nx3 H3 => ?_;have an:∀ op:AV->OP,zF 2 (.ptr pa (0+0)) h3 op=op (.agg [s,w]):=λop=>H3.jg (k:=1) rfl (by simp) rfl;have ad:∀ op:AV->OP,zF 2 (.ptr pa (0+2)) h3 op=op (.agg [s',w']):=λop=>H3.jg (k:=1) rfl (by simp) rfl;have bn:∀ op:AV->OP,zF 2 (.ptr pb (0+0)) h3 op=op (.agg [t,u]):=λop=>H3.jg (k:=0) rfl (by simp) rfl;have bd:∀ op:AV->OP,zF 2 (.ptr pb (0+2)) h3 op=op (.agg [t',u']):=λop=>H3.jg (k:=0) rfl (by simp) rfl;rw [zA,nT.zx,sFx,an,sFx,bd,sFx,bn,sFx,ad];refine q9 ⟨_,_,rfl,i1⟩ ⟨_,_,rfl,j2⟩ (q0 ha.1 (show Int.natAbs (b.den:Int)<=N from hb.2) h) _ _ _ _ ?_;intro v1 hv1 _;rw [ad,zH,sFx,zH,bn,zH,sFx,zH];refine q9 ⟨_,_,rfl,j1⟩ ⟨_,_,rfl,i2⟩ (q0 hb.1 (show Int.natAbs (a.den:Int)<=M from ha.2) (by rw [Zcm];exact h)) _ _ _ _ ?_;intro v2 hv2 _;refine zq0 hv1 hv2 _ _ _ _ ?_;rintro _ rfl _;simp only [zE,zM];rw [nT.ret];exact hK _ _ _ _ _ H3 (zR rfl) rfl
theorem zmx {va vb:AV} {a b:Rat} {M N:Nat} (hva:yR va a) (hvb:yR vb b) (ha:jk M a) (hb:jk N b) (h:M*N<=9223372036854775807):Pure Tryz.prog B 118 [va,vb] (· = .bool (decide (a=b))):=by
 have oN:=hva;have eH:=hvb;obtain ⟨s,w,s',w',rfl,i1,i2⟩:=hva;obtain ⟨t,u,t',u',rfl,j1,j2⟩:=hvb;refine zT λhh nx K H0 hK=>zN zP yD 100 λhf => ?_;rw [nU.go,nU.t3,zA,nU.zy];refine H0.box (l:=[s,w,s',w']) rfl λpa h1 nx1 H1 => ?_;refine H1.box (l:=[t,u,t',u']) rfl λpb h3 nx3 H3 => ?_;rw [zA,nU.zx,H3.zk (k:=1) (n:=4) rfl rfl,H3.zk (k:=0) (n:=4) rfl rfl];refine zmw oN eH ha hb h _ _ _ _ ?_;rintro _ rfl _;rw [qx];simp only [zE,zM];rw [nU.ret];refine hK _ _ _ _ _ H3 (zR rfl) ?_
 congr 1
 refine decide_eq_decide.2 ?_;rw [zev a b,fe];constructor <;> intro <;> omega
theorem zv2 {a b:Int} {K:AV->OP}:sMin true (I a) [I b] K=K (I (max a b)):=by
 have e:sMin true (I a) [I b] K=K (.int .i64 (bif ilt a b then b else a)):=rfl;rw [e,wZ]
 congr 2
 by_cases c:a<b
 .simp only [c,decide_true,cond_true];omega
 .simp only [c,decide_false,cond_false];omega
theorem zkv {n:Nat} (h:n<=9223372036854775807):(vg n 1).length<=20:=by
 unfold vg;rw [Zai,Zbr];have:=zg7 (n:=n) (w:=1) (by omega) (by omega);omega
theorem zv3 {a b:Int} (ha : -4000000000000000000<=a/\a<=4000000000000000000) (hb:0<b/\b<=4000000000000000000):Pure Tryz.prog B 128 [I a,I b] (· = .str (ku (Rat.divInt a b))):=by
 refine zT λh nx K H0 hK=>zN zP yD 100 λhf => ?_;rw [yg.go,yg.t32,zA,yg.zy]
 have tail:∀ {a b:Int} {x5 x6:AV},(-4000000000000000000<=a/\a<=4000000000000000000)->(0<b/\b<=4000000000000000000)->(∀ v h' nx' L v',Hp h h' nx' L->tC h h' v v'->v'=.str (ku (Rat.divInt a b))->K v h' nx'=.ok True) ->
   yg.t29.run (CS Tryz.prog B) 100 (fnO yg.res K) (zo yg.res K) (yg.fr (I a) (I b) (.str []) .u .u x5 x6 .u .u) h nx=.ok True:=by
  intro a b x5 x6 ha hb hK;have hg:0<Nat.gcd a.natAbs b.natAbs:=Nat.gcd_pos_of_pos_right _ (by omega);have hgl:Nat.gcd a.natAbs b.natAbs<=b.natAbs:=Nat.le_of_dvd (by omega) (Nat.gcd_dvd_right ..);obtain ⟨d1,d2⟩:=qL (n:=a) (d:=b) hb.1;have eg:(Int.gcd a b:Int)=((Nat.gcd a.natAbs b.natAbs:Nat):Int):=rfl;have e1:a.tdiv ((Nat.gcd a.natAbs b.natAbs:Nat):Int)=(Rat.divInt a b).num:=by
   rw [d1,<- eg];exact Int.tdiv_eq_ediv_of_dvd (Zfz ..)
  have e2:b.tdiv ((Nat.gcd a.natAbs b.natAbs:Nat):Int)=((Rat.divInt a b).den:Int):=by
   rw [d2,<- eg];exact Int.tdiv_eq_ediv_of_dvd (Zgt ..)
  have hn:(Rat.divInt a b).num.natAbs<=a.natAbs:=by
   rw [<- e1,Int.natAbs_tdiv,Zbq];exact Zdq _ _
  have hd:(Rat.divInt a b).den<=b.natAbs:=by
   have:=congrArg Int.natAbs e2;rw [Int.natAbs_tdiv,Zbq,Zbq] at this;rw [<- this];exact Zdq _ _
  rw [yg.t29,zA,yg.sV,dz (by omega),zv2,show max a (0-a)=(a.natAbs:Int) by omega];have hbb:I b=I (b.natAbs:Int):=by congr 1;omega
  have hgc:∀ KK:Kw Prop,(∀ h2 n3,h2=h->n3=nx->KK (I ((Nat.gcd a.natAbs b.natAbs:Nat):Int)) h2 n3=.ok True)->(CS Tryz.prog B).fn 210 (.of 210) [I (a.natAbs:Int),I b] h nx KK=.ok True:=λKK q=>by
   rw [hbb];refine zx8 (by omega) (by omega) _ _ _ _ ?_;rintro _ rfl _;exact q _ _ rfl rfl
  refine hgc _ ?_;rintro h2 n3 rfl rfl;rw [zA,yg.pu,zg2 (by omega) (by omega),zg2 (by omega) (by omega),e1,e2,zA,yg.ni,zA,zA,yg.rM,jq,zB,yg.v7]
  generalize Rat.divInt a b=q at *
  have l1:=zkv (n:=q.num.natAbs) (by omega);have l2:=zkv (n:=q.den) (by omega);have fin:∀ (sg:List UInt8) (x7:AV),sg=(if q.num<0 then [45] else [])->yg.t25.run (CS Tryz.prog B) 100 (fnO yg.res K) (zo yg.res K) (yg.fr (I q.num) (I (q.den:Int)) (.str []) (I ((Nat.gcd a.natAbs b.natAbs:Nat):Int)) (.str sg) x5 x6 x7 .u) h2 n3=.ok True:=by
   intro sg x7 hsg;have ls:sg.length<=1:=by rw [hsg];split <;> simp
   rw [yg.t25,zA,yg.sW,dz (by omega),zv2,show max q.num (0-q.num)=(q.num.natAbs:Int) by omega];refine vI (w:=1) (by omega) (by omega) _ _ _ _ ?_;rintro _ rfl _;rw [tCat (by omega),zA,zA,yg.zfm,dm,zB,yg.v8];have hint:sg++vg q.num.natAbs 1=vk q.num:=by rw [hsg];rfl
   by_cases c:q.den=1
   .rw [Zab (by omega),zD,zG,zA,yg.aQ];simp only [zE,zM];rw [yg.ret];exact hK _ _ _ _ _ H0 (zR rfl) (by rw [ku,if_pos c,Zbi,hint])
   .have hdp:=q.den_pos;rw [Zac (by omega),zC,yg.rX,tCat (by simp;omega)];refine vI (w:=1) (by omega) (by omega) _ _ _ _ ?_;rintro _ rfl _;rw [tCat (by simp;omega),zA,yg.aQ];simp only [zE,zM];rw [yg.ret];refine hK _ _ _ _ _ H0 (zR rfl) ?_;rw [ku,if_neg c,<- hint,vk,if_neg (show ¬ ((q.den:Int)<0) by omega),Zbo,Zbq];simp
  by_cases d:q.num<0
  .rw [Zac d,zC,yg.fT];exact fin _ _ (by rw [if_pos d])
  .rw [Zab d,zD,zG];exact fin _ _ (by rw [if_neg d])
 rw [zA,zA,yg.zx,yg.tX,yg.tY,jq,Zab (by omega)];simp only [y4];rw [dm];simp only [zZ];rw [Zab (by omega)];simp only [y4];rw [yg.eF,yg.tK];simp only [y4];rw [jq];simp only [zZ];rw [Zab (by omega)];simp only [y4];rw [dm];simp only [zZ];rw [Zab (by omega),zB,yg.v5,zD,zG,zA,zA,yg.qg,jq,zB,yg.v6,Zab (by omega),zD,zG];exact tail ha hb hK
def Qd (q:Rat):Prop:=q.num.natAbs<1000000000/\q.den<1000000000
theorem zjh {p q:Rat} (hp:Qd p) (hq:Qd q):Pure Tryz.prog B 40 [.str (ku p),.str (ku q)] (· = .str (ku (p+q))):=by
 refine zT λh nx K H0 hK=>zN zP yD 100 λhf => ?_;obtain ⟨p1,p2⟩:=hp;obtain ⟨q1,q2⟩:=hq;rw [F40.go,F40.t17,zA,F40.zy,zA,F40.zx];refine mK p1 p2 _ _ _ _ ?_;rintro _ rfl _;rw [jB,jC,gE,zA,F40.jb];refine mK q1 q2 _ _ _ _ ?_;rintro _ rfl _;rw [jB,jC,gE,zA,zA,F40.dw];simp only [yL,zW];have m1:(p.num*(q.den:Int)).natAbs<10 ^ 9*10 ^ 9:=by rw [Zcc];exact Zdv p1 (by omega)
 have m2:(q.num*(p.den:Int)).natAbs<10 ^ 9*10 ^ 9:=by rw [Zcc];exact Zdv q1 (by omega)
 have m3:((p.den:Int)*(q.den:Int)).natAbs<10 ^ 9*10 ^ 9:=by rw [Zcc];exact Zdv (by omega) (by omega)
 have m4:0<(p.den:Int)*(q.den:Int):=Int.mul_pos (Int.natCast_pos.2 p.den_pos) (Int.natCast_pos.2 q.den_pos);rw [zB,F40.v13,zC,zA,F40.rD,rC (by omega),rC (by omega),um (by omega),rC (by omega)];refine zv3 (by omega) (by omega) _ _ _ _ ?_;rintro _ rfl _;rw [zde];simp only [zE,zM];rw [F40.ret];exact hK _ _ _ _ _ H0 (zR rfl) rfl
theorem zew {p q:Rat} (hp:Qd p) (hq:Qd q):Pure Tryz.prog B 41 [.str (ku p),.str (ku q)] (· = .str (ku (p*q))):=by
 refine zT λh nx K H0 hK=>zN zP yD 100 λhf => ?_;obtain ⟨p1,p2⟩:=hp;obtain ⟨q1,q2⟩:=hq;rw [F41.go,F41.t17,zA,F41.zy,zA,F41.zx];refine mK p1 p2 _ _ _ _ ?_;rintro _ rfl _;rw [jB,jC,gE,zA,F41.jb];refine mK q1 q2 _ _ _ _ ?_;rintro _ rfl _;rw [jB,jC,gE,zA,zA,F41.dw];simp only [yL,zW];have m1:(p.num*q.num).natAbs<10 ^ 9*10 ^ 9:=by rw [Zcc];exact Zdv p1 q1
 have m3:((p.den:Int)*(q.den:Int)).natAbs<10 ^ 9*10 ^ 9:=by rw [Zcc];exact Zdv (by omega) (by omega)
 have m4:0<(p.den:Int)*(q.den:Int):=Int.mul_pos (Int.natCast_pos.2 p.den_pos) (Int.natCast_pos.2 q.den_pos);rw [zB,F41.v13,zC,zA,F41.rD,rC (by omega),rC (by omega)];refine zv3 (by omega) (by omega) _ _ _ _ ?_;rintro _ rfl _;rw [zdd];simp only [zE,zM];rw [F41.ret];exact hK _ _ _ _ _ H0 (zR rfl) rfl
theorem zts:dg 1000000000 1=[1]:=by rw [kJ (by decide) (by decide),show 1 / 1000000000=0 from rfl,j8]
theorem ztt {a g:Int} (hg:0<g) (hd:g∣a):(if decide (a<0)=true then -((a.natAbs / g.natAbs:Nat):Int) else ((a.natAbs / g.natAbs:Nat):Int))=a / g:=by
 obtain ⟨t,rfl⟩:=hd;rw [Zcc,Nat.mul_div_cancel_left _ (by omega),Int.mul_ediv_cancel_left _ (by omega)];by_cases d:t<0
 .rw [if_pos (Zac (Int.mul_neg_of_pos_of_neg hg d))];omega
 .have:0<=g*t:=Zgj (by omega) (by omega);rw [if_neg (by rw [Zab (by omega)];decide)];omega
theorem zhf {a b:Int} {k:Nat} (hk:k<=40000) (ha:Z9 k a) (hb:Z9 k b) (hb0:b≠0) (hbN:b.natAbs<1000000000):Pure Tryz.prog B 130 [oL a,oL b] (· = .str (ku (Rat.divInt a b))):=by
 refine zT λh nx K H0 hK=>zN zP yD 100 λhf => ?_;rw [yj.go,yj.t22,zA,yj.zy];refine H0.box (l:=[.bool (decide (a<0)),ve (dg 1000000000 a.natAbs)]) rfl λpa h1 nx1 H1 => ?_;refine H1.box (l:=[.bool (decide (b<0)),ve (dg 1000000000 b.natAbs)]) rfl λpb h2 nx2 H2 => ?_
 have tail:∀ {h3:T Blk} {nx3:Pa} {a b:Int} {x9:AV},Z9 k a->Z9 k b->0<b->b.natAbs<1000000000->(∀ v h' nx' L v',Hp h h' nx' L->tC h h' v v'->v'=.str (ku (Rat.divInt a b))->K v h' nx'=.ok True)->Hp h h3 nx3 [.arr pb [.bool (decide (b<0)),ve (dg 1000000000 b.natAbs)],.arr pa [.bool (decide (a<0)),ve (dg 1000000000 a.natAbs)]]->∀ {x0 x1:AV},
   IR.run yj.t20 (CS Tryz.prog B) 100 (fnO yj.res K) (zo yj.res K) (yj.fr x0 x1 (.ptr pa 0) (.ptr pb 0) (.str []) .u .u .u .u x9 .u) h3 nx3=.ok True:=by
  intro h3 nx3 a b x9 ha hb hb0 hbN hK H x0 x1;have la:=ha.len;have lb:=hb.len;have hg:0<Nat.gcd a.natAbs b.natAbs:=Nat.gcd_pos_of_pos_right _ (by omega);have hgl:Nat.gcd a.natAbs b.natAbs<=b.natAbs:=Nat.le_of_dvd (by omega) (Nat.gcd_dvd_right ..);obtain ⟨d1,d2⟩:=qL (n:=a) (d:=b) hb0;have eg:(Int.gcd a b:Int)=((Nat.gcd a.natAbs b.natAbs:Nat):Int):=rfl;have hsg:=ztt (a:=a) (g:=(Int.gcd a b:Int)) (by rw [eg];omega) (Zfz ..);rw [<- d1,eg,Zbq] at hsg;have hden:(Rat.divInt a b).den=b.natAbs / Nat.gcd a.natAbs b.natAbs:=by
   have e3:b / ((Nat.gcd a.natAbs b.natAbs:Nat):Int)=((b.natAbs / Nat.gcd a.natAbs b.natAbs:Nat):Int):=by
    rw [Int.natCast_ediv]
    congr 1
    omega
   rw [eg,e3] at d2;exact Int.natCast_inj.1 d2
  have hqn:Z9 k (Rat.divInt a b).num:=by
   unfold Z9 at *
   have e4:(Rat.divInt a b).num.natAbs=a.natAbs / Nat.gcd a.natAbs b.natAbs:=by
    rw [<- hsg];split
    .rw [Zeg,Zbq]
    .rw [Zbq]
   rw [e4];exact Zcs (Zdq _ _) ha
  have hqd:Z9 k ((Rat.divInt a b).den:Int):=by
   unfold Z9 at *
   rw [hden,Zbq];exact Zcs (Zdq _ _) hb
  have l1:=kG hqn;have l2:=kG hqd;have oq:=qG (b:=1000000000) (by decide) (a.natAbs / Nat.gcd a.natAbs b.natAbs);have lq:=pX (b:=1000000000) (by decide) (Zdq a.natAbs (Nat.gcd a.natAbs b.natAbs));have Sg:S9 (Nat.gcd a.natAbs b.natAbs):=by
   have:=pX (b:=1000000000) (by decide) hgl;unfold S9;omega
  rw [yj.t20,zA,yj.rE,sFx,H.load (k:=1) (i:=0+1) rfl rfl,sFx,H.load (k:=0) (i:=0+1) rfl rfl];refine zmp hbN (by unfold S9;omega) (by unfold S9;omega) _ _ _ _ ?_;rintro _ rfl _;rw [zA,yj.qg,sFx,H.load (k:=1) (i:=0+1) rfl rfl];refine cH hg (Zcs hgl hbN) (by unfold S9;omega) Sg _ _ _ _ ?_;rintro _ rfl _;rw [jB,jC,zA,yj.fU,sFx,H.load (k:=0) (i:=0+1) rfl rfl];refine cH hg (Zcs hgl hbN) (by unfold S9;omega) Sg _ _ _ _ ?_;rintro _ rfl _;rw [jB,jC,zA,yj.fE,sFx,H.load (k:=1) (i:=0+0) rfl rfl];refine xI oq.2.1 (by omega) _ _ _ _ ?_;rintro _ rfl _;rw [oq.1,hsg];refine zep (by omega) hqn _ _ _ _ ?_;rintro _ rfl _;rw [<- hden,zA,zA,yj.rF]
  generalize Rat.divInt a b=q at *
  have od:=qG (b:=1000000000) (by decide) q.den;by_cases c:q.den=1
  .rw [c,zts,yj.r6_0,yj.zdq,dLen,qx,Zac (by rfl)];simp only [yL];rw [dIx (l:=[1]) (i:=0) (j:=0) rfl (by simp),dLd (x:=1) rfl,qx,Zac (by rfl),yj.r6_1,yj.oG];simp only [zW];rw [zB,yj.v10,zC,zA,yj.sV];simp only [zE,zM];rw [yj.ret];exact hK _ _ _ _ _ H (zR rfl) (by rw [ku,if_pos c,Zbi])
  .have fin:∀ x10:AV,IR.run yj.t15 (CS Tryz.prog B) 100 (fnO yj.res K) (zo yj.res K) (yj.fr x0 x1 (.ptr pa 0) (.ptr pb 0) (.str []) (ve (dg 1000000000 (Nat.gcd a.natAbs b.natAbs))) (ve (dg 1000000000 (a.natAbs / Nat.gcd a.natAbs b.natAbs))) (ve (dg 1000000000 q.den)) (.str (vk q.num)) x9 x10) h3 nx3=.ok True:=by
    intro x10;rw [yj.t15,zA,yj.fT,tCat (by simp;omega)];refine xI od.2.1 (by have:=hqd.len;rw [Zbq] at this;omega) _ _ _ _ ?_;rintro _ rfl _;rw [if_neg (by decide),od.1];refine zep (by omega) hqd _ _ _ _ ?_;rintro _ rfl _;rw [tCat (by simp;omega)];simp only [zE,zM];rw [yj.ret];exact hK _ _ _ _ _ H (zR rfl) (by rw [ku,if_neg c,Zbu];rfl)
   rw [yj.r6_0,yj.zdq,dLen,qx];by_cases e:(dg 1000000000 q.den).length=1
   .obtain ⟨e1,e2⟩:=zbx (b:=1000000000) (by decide) e;rw [Zac (by omega)];simp only [yL];rw [e1,dIx (l:=[q.den]) (i:=0) (j:=0) rfl (by simp),dLd (x:=q.den) rfl,qx,Zab (by omega),yj.r6_1,yj.oG];simp only [zW];rw [zB,yj.v10,zD,zG];rw [<- e1];exact fin _
   .rw [Zab (by omega)];simp only [jF,vU];rw [yj.r6_1,yj.oG];simp only [zZ];rw [zB,yj.v10,zD,zG];exact fin _
 rw [zA,zA,yj.zx,sFx,H2.load (k:=0) (i:=0+0) rfl rfl,zB,yj.v9];by_cases c:b<0
 .rw [Zac c,zC,yj.jb,H2.zk (k:=1) (n:=2) rfl rfl,H2.zk (k:=0) (n:=2) rfl rfl];have hma:Z9 k (-a):=by unfold Z9 at *;omega
  have hmb:Z9 k (-b):=by unfold Z9 at *;omega
  rw [<- vE a,<- vE b];refine zg5 (by omega) ha _ _ _ _ ?_;rintro _ rfl _;rw [H2.zk (k:=0) (n:=2) rfl rfl,<- vE b,zH];refine zg5 (by omega) hb _ _ _ _ ?_;rintro _ rfl _;refine H2.yx (l2:=[.bool (decide (-a<0)),ve (dg 1000000000 (-a).natAbs)]) (k:=1) rfl rfl rfl λh3 H3 => ?_;refine H3.yx (l2:=[.bool (decide (-b<0)),ve (dg 1000000000 (-b).natAbs)]) (k:=0) rfl rfl rfl λh4 H4 => ?_;exact tail hma hmb (by omega) (by omega) (by rw [Rat.neg_divInt_neg];exact hK) H4
 .rw [Zab c,zD,zG];exact tail ha hb (by omega) hbN hK (by rw [Zab c] at H2 ⊢;exact H2)
theorem ztu {n:Nat} (h:vg n 1=[48]):n=0:=by
 have hlt:=zto (n:=n) (k:=1) (by rw [h];simp);rcases Zgl n with e | e
 .exact e
 .exfalso
  have hd:dg 10 n=[n]:=by
   rw [kJ (by decide) (by omega),show n / 10=0 by omega,j8,show n%10=n by omega]
  unfold vg at h;rw [zbz (by omega),hd] at h;have:∀ n<10,0<n->dch n≠48:=by decide +kernel
  exact this n (by omega) e (by simpa using h)
theorem aM {q:Rat}:ku q=[48]↔q=0:=by
 constructor
 .intro h;have hd1:=m8 q.num.natAbs;have hlen:=congrArg List.length h;rw [dY] at h hlen;by_cases d:q.num<0
  .rw [if_pos d] at h;have:=congrArg List.head? h;simp at this
  .rw [if_neg d,Zbo] at h hlen;unfold si at h hlen;by_cases c:q.den=1
   .rw [if_pos c,Zbi] at h;have:=ztu h;exact Rat.num_eq_zero.1 (by omega)
   .rw [if_neg c] at hlen;simp at hlen;omega
 .rintro rfl;rw [ku,if_pos (show (0:Rat).den=1 from rfl),Zbi];show vk 0=[48];rw [vk,if_neg (by decide)];exact zdb
theorem zdh {a b:List UInt8} {K:AV->OP}:ze .eql .str (.str a) (.str b) K=K (.bool (decide (a=b))):=by
 have e:ze .eql .str (.str a) (.str b) K=K (.bool (gN a b)):=nr rfl;rw [e];by_cases c:a=b
 .rw [Zac c,mq.2 c]
 .rw [Zab c];cases q:gN a b with
  | true=>exact absurd (mq.1 q) c
  | false=>rfl
theorem zb5 {q:Rat} (d:q.num<0):ku q=45::si q:=by rw [dY,if_pos d];rfl
theorem zhg {q:Rat} (d:¬ q.num<0):ku q=si q/\∃ c,(ku q)[0]? = some c/\c≠45:=by
 have hd1:=m8 q.num.natAbs;have hcut:ku q=si q:=by rw [dY,if_neg d];rfl
 have hc0:=List.getElem?_eq_getElem (l:=vg q.num.natAbs 1) (i:=0) (by omega);exact ⟨hcut,_,by rw [hcut,si,List.getElem?_append_left (by omega),hc0],(pF (Zad hc0)).2⟩
theorem bT (q:Rat):1<=(ku q).length:=by
 have hd1:=m8 q.num.natAbs;rw [dY,si,Zae,Zae];omega
theorem zkw {q:Rat} (hl:(ku q).length<=1000000):Pure Tryz.prog B 255 [.str (ku q)] (· = I (j4 q.num)):=by
 refine zT λh nx K H0 hK=>zN zP yD 100 λhf => ?_;have l1:=bT q;rw [qa.go,qa.t15,zA,qa.zy,zA,zA,qa.zx,zdh,zB,qa.v2];by_cases c:q=0
 .rw [Zac (aM.2 c),zC,zA,qa.jb];simp only [zE,zM];rw [qa.ret];exact hK _ _ _ _ _ H0 (zR rfl) (by rw [c];rfl)
 .have hn:q.num≠0:=λe=>c (Rat.num_eq_zero.1 e);rw [Zab (λe=>c (aM.1 e)),zD,zG,zA,zA,qa.qg,tT,dm,Zac (by omega)];simp only [yL];by_cases d:q.num<0
  .have e0:(ku q)[0]? = some 45:=by rw [zb5 d];rfl
   rw [tIdx (i:=0) (x:=0) rfl e0,qx];simp only [zW];rw [show decide (((45:UInt8).toNat:Int)=45)=true from rfl,zB,qa.v3,zC,zA,qa.fU];simp only [zE,zM];rw [qa.ret];exact hK _ _ _ _ _ H0 (zR rfl) (by unfold j4;rw [if_pos d])
  .obtain ⟨_,c',e0,hne⟩:=zhg d
   have hne2:¬ ((c'.toNat:Int)=45):=λh=>hne (by
    have e:(45:UInt8).toNat=45:=rfl;have:c'.toNat=(45:UInt8).toNat:=by omega
    exact UInt8.toNat_inj.1 this)
   rw [tIdx (i:=0) (x:=0) rfl e0,qx];simp only [zW];rw [Zab hne2,zB,qa.v3,zD,zG,zA,qa.pu];simp only [zE,zM];rw [qa.ret];exact hK _ _ _ _ _ H0 (zR rfl) (by unfold j4;rw [if_neg d,if_pos (by omega)])
theorem zhh (q:Rat):si (-q)=si q:=by unfold si;rw [Zft,Rat.neg_den,Zeg]
theorem zq2 {q:Rat} (hl:(ku q).length<=900000):Pure Tryz.prog B 189 [.str (ku q)] (· = .str (ku (-q))):=by
 refine zT λh nx K H0 hK=>zN zP yD 100 λhf => ?_;have l1:=bT q;rw [qb.go,qb.t15,zA,qb.zy,zA,zA,qb.zx];refine zkw (by omega) _ _ _ _ ?_;rintro _ rfl _;rw [jq,zB,qb.v2];by_cases d:q.num<0
 .rw [Zac (by unfold j4;rw [if_pos d];decide),zC,zA,qb.jb,zby (a:=1) (x:=1) rfl l1,zb5 d];simp only [zE,zM];rw [qb.ret];exact hK _ _ _ _ _ H0 (zR rfl) (by rw [dY (-q),if_neg (by rw [Zft];omega),zhh];rfl)
 .rw [Zab (by unfold j4;rw [if_neg d];split <;> decide),zD,zG,zA,zA,qb.qg];refine zkw (by omega) _ _ _ _ ?_;rintro _ rfl _;rw [qx,zB,qb.v3];by_cases c:q.num=0
  .have hq:=Rat.num_eq_zero.1 c;rw [Zac (by unfold j4;rw [if_neg d,if_neg (by omega)]),zC,zA,qb.fU];simp only [zE,zM];rw [qb.ret];exact hK _ _ _ _ _ H0 (zR rfl) (by rw [hq];rfl)
  .rw [Zab (by unfold j4;rw [if_neg d,if_pos (by omega)];decide),zD,zG,zA,qb.pu,tCat (by simp;omega)];simp only [zE,zM];rw [qb.ret];exact hK _ _ _ _ _ H0 (zR rfl) (by rw [(zhg d).1,zb5 (by rw [Zft];omega),zhh];rfl)
theorem Qd.neg {q:Rat} (h:Qd q):Qd (-q):=⟨by rw [Zft,Zeg];exact h.1,by rw [Rat.neg_den];exact h.2⟩
theorem Qd.z9 {q:Rat} (h:Qd q):Z9 1 q.num/\Z9 1 (q.den:Int):=⟨by unfold Z9;exact h.1,by unfold Z9;rw [Zbq];exact h.2⟩
theorem Qd.txt {q:Rat} (h:Qd q):(ku q).length<=100:=by
 have l1:=kG h.z9.1;have l2:=kG h.z9.2;unfold ku;rw [Zae];split <;> simp <;> omega
theorem zq3 {p q:Rat} (hp:Qd p) (hq:Qd q):Pure Tryz.prog B 99 [.str (ku p),.str (ku q)] (· = .str (ku (p-q))):=by
 refine zT λh nx K H0 hK=>zN zP yD 100 λhf => ?_;have tq:=hq.txt;rw [F99.go,F99.t3,zA,F99.zy,zA,F99.zx];refine zq2 (by omega) _ _ _ _ ?_;rintro _ rfl _;refine zjh hp hq.neg _ _ _ _ ?_;rintro _ rfl _;simp only [zE,zM];rw [F99.ret];exact hK _ _ _ _ _ H0 (zR rfl) (by rw [Zfl])
theorem pJ {p:Rat} (hp:Qd p) (h0:p≠0):Pure Tryz.prog B 203 [.str (ku p)] (· = .str (ku p⁻¹)):=by
 refine zT λh nx K H0 hK=>zN zP yD 100 λhf => ?_;rw [fG.go,fG.t5,zA,fG.zy,zA,fG.zx];refine zqx (k:=1) (by decide) hp.z9.1 hp.z9.2 _ _ _ _ ?_;rintro _ rfl _;rw [jB,jC];refine H0.alloc λp1 h1 nx1 H1 => ?_;refine H1.alloc λp2 h2 nx2 H2 => ?_;refine H2.yx (l2:=[.bool (decide (p.num<0)),ve (dg 1000000000 p.num.natAbs)]) (k:=1) rfl rfl rfl λh3 H3 => ?_;refine H3.yx (l2:=[.bool (decide ((p.den:Int)<0)),ve (dg 1000000000 (p.den:Int).natAbs)]) (k:=0) rfl rfl rfl λh4 H4 => ?_;rw [zA,fG.jb,H4.zk (k:=0) (n:=2) rfl rfl,H4.zk (k:=1) (n:=2) rfl rfl,<- vE,<- vE];refine zhf (k:=1) (by decide) hp.z9.2 hp.z9.1 (λe=>h0 (Rat.num_eq_zero.1 e)) hp.1 _ _ _ _ ?_;rintro _ rfl _;simp only [zE,zM];rw [fG.ret];exact hK _ _ _ _ _ H4 (zR rfl) (by rw [<- Rat.inv_def])
theorem d8 {q:Rat}:Pure Tryz.prog B 39 [.str (ku q)] (· = .bool (decide (q=0))):=by
 refine zT λh nx K H0 hK=>zN zP yD 100 λhf => ?_;rw [F39.go,F39.t3,zA,F39.zy,zA,F39.zx,zdh];simp only [zE,zM];rw [F39.ret];exact hK _ _ _ _ _ H0 (zR rfl) (by congr 1;exact decide_eq_decide.2 aM)
abbrev T9 (q:Rat):AV:=.str (ku q)
def uX (l:List Rat):AV:=.lst 1 l.length (l.map T9)
def j6 (M:List (List Rat)):AV:=.lst 1 M.length (M.map uX)
def rv9 (w:Nat) (r:Pa):AV:=.sl r 0 w none 1
def jS (rs:List Pa) (M:List (List Rat)):List Ob:=List.zipWith (λr l=>Ob.arr r (l.map T9)) rs M
theorem vW {rs:List Pa} {M:List (List Rat)} {r:Pa} {l:List Rat} (h:rs.length=M.length):jS (rs++[r]) (M++[l])=jS rs M++[.arr r (l.map T9)]:=by
 unfold jS;rw [Zgf h];rfl
theorem ztv (l:List Rat):(l.map T9).all uz=true:=by simp [Zaz,uz]
theorem zq4 {M:List (List Rat)} {w:Nat} {h0 h:T Blk} {nx p0:Pa} {K:Kw Prop} (H0:Hp h0 h nx []) (hw:1<=w) (hws:w<=1000000) (hM:∀ l∈M,l.length=w) (hMs:M.length<=100000)
  (hK:∀ (o:Option Pa) (rs:List Pa) (h':T Blk) (nx':Pa),rs.length=M.length->Hp h0 h' nx' (.gro o 1 M.length (rs.map (rv9 w))::jS rs M)->K (uy o 1 M.length) h' nx'=.ok True) :
  (CS Tryz.prog B).fn 256 p0 [j6 M] h nx K=.ok True:=by
 refine kC (p:=.of 256) (K:=K) (zN zP yD 100010 λhf => ?_) λ_ _ _ _ q=>q;rw [ug.go,ug.t18,zA,ug.zy,zA,ug.zx,zA,zA,ug.jb,zJ];refine ug.aF (λm x2 x3 h' nx'=>∃ (i:Nat) (o:Option Pa) (rs:List Pa),x2=uy o 1 i/\x3=I (i:Int)/\m+i=M.length/\rs.length=i/\Hp h0 h' nx' (.gro o 1 i (rs.map (rv9 w))::jS rs (M.take i))) (m:=M.length) (by omega) ⟨0,none,[],rfl,rfl,rfl,rfl,H0.ak 1⟩ ?_;rintro m z2 z3 z4 h3 nx3 R ⟨i,o,rs,rfl,rfl,hm,hrs,H3⟩ hR;rw [ug.t10,zA,zA,ug.dw,j6,yA,jq];by_cases c:i<M.length
 .have er:=List.getElem?_eq_getElem c;have hl:=hM M[i] (Zau c);have qbd:(M.map uX)[i]? = some (uX M[i]):=by rw [List.getElem?_map,er];rfl
  rw [Zac (by omega),zB,ug.v4,zC,zG,zA,zJ,ug.qg];refine H3.cu (l:=[]) rfl λe h4 nx4 H4 => ?_;rw [fO (i:=i) rfl c,ldL qbd];refine H4.appE (new:=M[i].map T9) (c:=w) (λno K'=>by rw [uX,hl];rfl) (by simp [hl]) (ztv _) (by decide) hw hws λid h5 nx5 H5 => ?_;have H6:=H5.oM.perm (.swap _ _ _);refine H6.oU (v:=rv9 w id) (by omega) (by decide) rfl rfl λo' h7 nx7 H7 => ?_;rw [ug.fE,um (by omega)];refine hR (m-1) _ _ _ _ _ (by omega) ⟨i+1,o',rs++[id],rfl,by congr 1,by omega,by simp [hrs],?_⟩;have ht:M.take (i+1)=M.take i++[M[i]]:=by rw [Zar,er];rfl
  rw [ht,vW (by rw [Zah];omega),Zbp];exact H7.perm ((Zdl _ _).symm.cons _)
 .obtain rfl:i=M.length:=by omega
  rw [Zam (by omega)] at H3;rw [Zab (by omega),zB,ug.v4,zD,zV,yC,zA,ug.fT];simp only [zE,zM];rw [ug.ret];exact hK o rs _ _ hrs H3
def zkx (c:UInt8):Nat:=c.toNat-48
theorem zmy {x:Nat} (h:x<10):zkx (dch x)=x:=by unfold zkx;rw [zeq h];omega
theorem zhi (n w:Nat):bv 10 ((vg n w).map zkx).reverse=n:=by
 have e:((vg n w).map zkx).reverse=rU n w:=by
  unfold vg;rw [List.map_map,<- List.map_reverse,Zew]
  conv=>rhs;rw [<- List.map_id (rU n w)]
  exact Zge λx hx=>zmy (vH n w x hx)
 rw [e,mN]
theorem zhj {n m w:Nat} (h:vg n w=vg m w):n=m:=by rw [<- zhi n w,h,zhi]
theorem zhk {a b:Int} (h:vk a=vk b):a=b:=by
 have key:∀ {a b:Int},a<0->¬ b<0->vk a≠vk b:=λ{a b} h1 h2 e=>by
  unfold vk at e;rw [if_pos h1,if_neg h2,Zbo] at e;have hm:(45:UInt8)∈vg b.natAbs 1:=by rw [<- e];simp
  exact (pF hm).2 rfl
 by_cases h1:a<0
 .by_cases h2:b<0
  .unfold vk at h;rw [if_pos h1,if_pos h2] at h;have:=zhj (List.append_cancel_left h);omega
  .exact absurd h (key h1 h2)
 .by_cases h2:b<0
  .exact absurd h.symm (key h2 h1)
  .unfold vk at h;rw [if_neg h1,if_neg h2,Zbo,Zbo] at h;have:=zhj h;omega
theorem qbe {a b c d:List UInt8} (ha:∀ x∈a,x≠47) (hb:∀ x∈b,x≠47) (hc:c=[]\/∃ l,c=47::l) (hd:d=[]\/∃ l,d=47::l) (h:a++c=b++d):a=b/\c=d:=by
 have tw:∀ {a c:List UInt8},(∀ x∈a,x≠47)->(c=[]\/∃ l,c=47::l)->(a++c).takeWhile (· != 47)=a:=λ{a c} ha hc=>by
  rw [List.takeWhile_append_of_pos λx hx=>by simpa using ha x hx];rcases hc with rfl | ⟨l,rfl⟩ <;> simp
 have e:=congrArg (List.takeWhile (· != 47)) h;rw [tw ha hc,tw hb hd] at e;subst e;exact ⟨rfl,List.append_cancel_left h⟩
theorem zq5 {p q:Rat} (h:ku p=ku q):p=q:=by
 unfold ku at h;have sh:∀ q:Rat,(if q.den=1 then [] else 47::vk (q.den:Int))=[]\/∃ l,(if q.den=1 then [] else 47::vk (q.den:Int))=47::l:=λq=>by
  split
  .exact .inl rfl
  .exact .inr ⟨_,rfl⟩
 obtain ⟨h1,h2⟩:=qbe (λx hx=>qR hx) (λx hx=>qR hx) (sh p) (sh q) h;refine Rat.ext (zhk h1) ?_;split at h2 <;> split at h2
 .omega
 .cases h2
 .cases h2
 .have:=zhk (List.cons.inj h2).2;omega
theorem zyc {a b:List UInt8} {K:AV->OP}:ze .neq .str (.str a) (.str b) K=K (.bool (!decide (a=b))):=by
 have e:ze .neq .str (.str a) (.str b) K=K (.bool (!gN a b)):=nr rfl;rw [e];by_cases c:a=b
 .rw [Zac c,mq.2 c]
 .rw [Zab c];cases q:gN a b with
  | true=>exact absurd (mq.1 q) c
  | false=>rfl
theorem u6 {rs:List Pa} {M:List (List Rat)} {y:Nat} {r:Pa} {l:List Rat} (hr:rs[y]? = some r) (hl:M[y]? = some l):(jS rs M)[y]? = some (.arr r (l.map T9)):=by
 unfold jS;rw [List.getElem?_zipWith,hr,hl]
theorem zb6:∀ {rs:List Pa} {M:List (List Rat)} {y:Nat} {r:Pa} {l:List Rat},rs[y]? = some r->(jS rs M).set y (.arr r (l.map T9))=jS rs (M.set y l)
 | [],_,_,_,_,h=>by simp at h
 | _::_,[],y,_,_,_=>by simp [jS]
 | a::rs,m::M,0,r,l,h=>by
  simp at h;subst h
  rfl
 | a::rs,m::M,y+1,r,l,h=>by
  have:=zb6 (rs:=rs) (M:=M) (y:=y) (r:=r) (l:=l) (by simpa using h);unfold jS at this ⊢;simp only [Zfu,Zfm];rw [this]
theorem pD {α:Type} {a b:List α} {i:Nat} {x:α} (h:a[i]? = some x):(a++b)[i]? = some x:=by
 rw [List.getElem?_append_left (List.getElem?_eq_some_iff.1 h).1];exact h
def PM (h0 h:T Blk) (nx tid:Pa) (rs:List Pa) (w:Nat) (L:List Ob) (M:List (List Rat)):Prop :=
 rs.length=M.length/\(∀ l∈M,l.length=w)/\Hp h0 h nx (.arr tid (rs.map (rv9 w))::(jS rs M++L))
theorem PM.tab {h0 h:T Blk} {nx tid:Pa} {rs:List Pa} {L:List Ob} {w:Nat} {M:List (List Rat)} (H:PM h0 h nx tid rs w L M) {y:Nat} (hy:y<M.length):∃ r,rs[y]? = some r/\∀ op:AV->OP,zI (.ptr tid y) h op=op (rv9 w r):=by
 obtain ⟨h1,_,h3⟩:=H;refine ⟨rs[y],List.getElem?_eq_getElem (by omega),λop => ?_⟩;exact h3.load (k:=0) rfl (by rw [List.getElem?_map,List.getElem?_eq_getElem (show y<rs.length by omega)];rfl)
theorem PM.cell {h0 h:T Blk} {nx tid:Pa} {rs:List Pa} {L:List Ob} {w:Nat} {M:List (List Rat)} (H:PM h0 h nx tid rs w L M) {y c:Nat} {r:Pa} {l:List Rat} {q:Rat} (hr:rs[y]? = some r) (hl:M[y]? = some l) (hq:l[c]? = some q) (op:AV->OP):zI (.ptr r c) h op=op (T9 q) :=
 H.2.2.load (k:=y+1) (by rw [List.getElem?_cons_succ];exact pD (u6 hr hl)) (by rw [List.getElem?_map,hq];rfl)
theorem PM.put {h0 h:T Blk} {nx tid:Pa} {rs:List Pa} {L:List Ob} {w:Nat} {M:List (List Rat)} (H:PM h0 h nx tid rs w L M) {y c:Nat} {r:Pa} {l:List Rat} {q:Rat} {K:Kw Prop} (hr:rs[y]? = some r) (hl:M[y]? = some l) (hc:c<l.length)
  (hK:∀ h',PM h0 h' nx tid rs w L (M.set y (l.set c q))->K .u h' nx=.ok True):zX 1 (.ptr r c) (T9 q) h nx K=.ok True:=by
 obtain ⟨h1,h2,h3⟩:=H;have hy:=(List.getElem?_eq_some_iff.1 hl).1;refine h3.store (k:=y+1) (by rw [List.getElem?_cons_succ];exact pD (u6 hr hl)) (by simpa using hc) rfl λh' H'=>hK h' ⟨by rw [Zan];exact h1,λl' hl' => ?_,?_⟩
 .rcases Zbe hl' with e | e
  .exact h2 _ e
  .rw [e,Zan];exact h2 _ (Zad hl)
 .have hyl:=(List.getElem?_eq_some_iff.1 (u6 hr hl)).1;rw [Zfm,<- Zet,List.set_append_left _ _ hyl,zb6 hr] at H';exact H'
theorem zhl {l:List Rat} {s:Rat} {c:Nat} {q:Rat} (hq:l[c]? = some q):((l.take c).map (· * s)++l.drop c).set c (q*s)=(l.take (c+1)).map (· * s)++l.drop (c+1):=by
 have hc:=(List.getElem?_eq_some_iff.1 hq).1;have e:l.drop c=q::l.drop (c+1):=by
  rw [List.getElem?_eq_getElem hc] at hq;rw [Zbj hc,Option.some.inj hq]
 rw [e,dT (by rw [Zai,Zah];omega),Zar,hq];simp
theorem zji {l:List Rat} {s:Rat} {c:Nat} {q:Rat} (hq:l[c]? = some q):((l.take c).map (· * s)++l.drop c)[c]? = some q:=by
 have hc:=(List.getElem?_eq_some_iff.1 hq).1;rw [List.getElem?_append_right (by rw [Zai,Zah];omega),Zai,Zah,List.getElem?_drop,show c+(c-min c l.length)=c by omega];exact hq
theorem zyd {M:List (List Rat)} {l:List Rat} {tid:Pa} {rs:List Pa} {L:List Ob} {w y N:Nat} {s:Rat} {h0 h:T Blk} {nx:Pa} {O:fQ Prop} {Kf K2:Ks Prop} {x1 x2 x3 x4 x5 x9 x10 x11 x12 x13 x14 x15 x16 x17 x18:AV}
  (H:PM h0 h nx tid rs w L M) (hl:M[y]? = some l) (hM:M.length<=100000) (hw:w<=100000) (hN:100010<=N) (hs:Qd s) (hq:∀ q∈l,Qd q)
  (hK:∀ (h':T Blk) (x15:AV),PM h0 h' nx tid rs w L (M.set y (l.map (· * s)))->Kf (zb.fr (.sl tid 0 M.length none 1) x1 x2 x3 x4 x5 (I (y:Int)) (.str (ku s)) (I (w:Int)) x9 x10 x11 x12 x13 x14 x15 x16 x17 x18) h' nx=.ok True) :
  IR.run zb.t31 (CS Tryz.prog B) N (O.blk 4 Kf) K2 (zb.fr (.sl tid 0 M.length none 1) x1 x2 x3 x4 x5 (I (y:Int)) (.str (ku s)) (I 0) x9 x10 x11 x12 x13 x14 x15 x16 x17 x18) h nx=.ok True:=by
 have hy:=(List.getElem?_eq_some_iff.1 hl).1;have hlw:=H.2.1 l (Zad hl)
 refine zb.zfi (λm x8 h' nx'=>∃ c:Nat,x8=I (c:Int)/\m+c=w/\nx'=nx/\PM h0 h' nx tid rs w L (M.set y ((l.take c).map (· * s)++l.drop c))) (m:=w) (by omega) ⟨0,rfl,rfl,rfl,by
  have e:M.set y ((l.take 0).map (· * s)++l.drop 0)=M:=by
   simp only [Zdm,List.map_nil,Zbo,Zdg];refine Zca λi => ?_;rw [List.getElem?_set];split
   .rename_i e;subst e;rw [hl]
   .rfl
  rw [e];exact H⟩ ?_
 rintro m z8 z15 h3 nx3 R ⟨c,rfl,hm,rfl,H3⟩ hR;have hy3:y<(M.set y ((l.take c).map (· * s)++l.drop c)).length:=by rw [Zan];exact hy
 have hMl:(M.set y ((l.take c).map (· * s)++l.drop c)).length=M.length:=Zan;have hrow:(M.set y ((l.take c).map (· * s)++l.drop c))[y]? = some ((l.take c).map (· * s)++l.drop c):=by rw [List.getElem?_set_self hy]
 obtain ⟨r,hr,ht⟩:=H3.tab hy3;rw [zb.t30,zA,zA,zb.zne,sIx (i:=y) rfl hy,ht,rv9,yJ,jq,zB,zb.v15];by_cases ci:c<w
 .have hc:l[c]? = some l[c]:=List.getElem?_eq_getElem (by omega);have hcell:=λop=>H3.cell hr hrow (zji hc) op;rw [Zac (by omega),zC,zG,zA,zJ,zb.zjy,sIx (i:=y) rfl hy,ht,sIx (i:=y) rfl hy,ht,rv9,sIx (i:=c) rfl ci,hcell];refine zew (hq _ (Zau (by omega))) hs _ _ _ _ ?_;rintro _ rfl _;rw [zH,ht,rv9,zH,sIx (i:=y) rfl hy];simp only [zH];rw [sIx (i:=c) rfl ci];refine H3.put (q:=l[c]*s) hr hrow (by rw [Zae,Zai,Zah,Zch];omega) λh4 H4 => ?_;rw [List.set_set,zhl hc] at H4;rw [zb.zaa,um (by omega)];exact hR (m-1) _ _ _ _ (by omega) ⟨c+1,by congr 1,by omega,rfl,H4⟩
 .obtain rfl:c=w:=by omega
  rw [Zam (by omega),Zbs (by omega),Zbi] at H3;rw [Zab (by omega),zD,zV,yC];exact hK _ _ H3
def wQ (f:Rat) (a b:List Rat):List Rat:=List.zipWith (λx y=>x-f*y) a b
theorem zb7 {M:List (List Rat)} {y:Nat} {l:List Rat} (hl:M[y]? = some l):M.set y l=M:=by
 have hy:=(List.getElem?_eq_some_iff.1 hl).1;refine Zca λi => ?_;rw [List.getElem?_set];split
 .rename_i e;subst e;rw [hl]
 .rfl
theorem zq6 {l e:List Rat} {c:Nat} {q:Rat} (hle:e.length=l.length) (hq:l[c]? = some q):(e.take c++l.drop c)[c]? = some q:=by
 have hc:=(List.getElem?_eq_some_iff.1 hq).1;rw [List.getElem?_append_right (by rw [Zah];omega),Zah,List.getElem?_drop,show c+(c-min c e.length)=c by omega];exact hq
theorem zmz {l e:List Rat} {c:Nat} {q:Rat} (hle:e.length=l.length) (hq:e[c]? = some q):(e.take c++l.drop c).set c q=e.take (c+1)++l.drop (c+1):=by
 have hc:=(List.getElem?_eq_some_iff.1 hq).1;rw [Zbj (show c<l.length by omega),dT (by rw [Zah];omega),Zar,hq];simp
theorem qbf {M:List (List Rat)} {ly lr:List Rat} {tid:Pa} {rs:List Pa} {L:List Ob} {w y r N:Nat} {f:Rat} {h0 h:T Blk} {nx:Pa} {O:fQ Prop} {Kf K2:Ks Prop} {x1 x2 x3 x4 x5 x7 x8 x12 x13 x14 x15 x16 x17 x18:AV}
  (H:PM h0 h nx tid rs w L M) (hly:M[y]? = some ly) (hlr:M[r]? = some lr) (hyr:y≠r) (hM:M.length<=100000) (hw:w<=100000) (hN:100010<=N) (hf:Qd f) (hqy:∀ q∈ly,Qd q) (hqr:∀ q∈lr,Qd q) (hqp:∀ q∈lr,Qd (f*q))
  (hK:∀ (h':T Blk) (x18:AV),PM h0 h' nx tid rs w L (M.set y (wQ f ly lr))->Kf (zb.fr (.sl tid 0 M.length none 1) x1 x2 x3 x4 x5 (I (r:Int)) x7 x8 (I (y:Int)) (.str (ku f)) (I (w:Int)) x12 x13 x14 x15 x16 x17 x18) h' nx=.ok True) :
  IR.run zb.t51 (CS Tryz.prog B) N (O.blk 8 Kf) K2 (zb.fr (.sl tid 0 M.length none 1) x1 x2 x3 x4 x5 (I (r:Int)) x7 x8 (I (y:Int)) (.str (ku f)) (I 0) x12 x13 x14 x15 x16 x17 x18) h nx=.ok True:=by
 have hy:=(List.getElem?_eq_some_iff.1 hly).1;have hr0:=(List.getElem?_eq_some_iff.1 hlr).1;have hlw:=H.2.1 ly (Zad hly);have hlw2:=H.2.1 lr (Zad hlr);have hE:(wQ f ly lr).length=ly.length:=by unfold wQ;rw [Zdt];omega
 refine zb.zys (λm x11 h' nx'=>∃ c:Nat,x11=I (c:Int)/\m+c=w/\nx'=nx/\PM h0 h' nx tid rs w L (M.set y ((wQ f ly lr).take c++ly.drop c))) (m:=w) (by omega) ⟨0,rfl,rfl,rfl,by
  rw [Zdm,Zbo,Zdg,zb7 hly];exact H⟩ ?_
 rintro m z11 z18 h3 nx3 R ⟨c,rfl,hm,rfl,H3⟩ hR;have hl3:(M.set y ((wQ f ly lr).take c++ly.drop c)).length=M.length:=Zan;have hrow:(M.set y ((wQ f ly lr).take c++ly.drop c))[y]? = some ((wQ f ly lr).take c++ly.drop c):=by rw [List.getElem?_set_self hy]
 have hrow2:(M.set y ((wQ f ly lr).take c++ly.drop c))[r]? = some lr:=by rw [List.getElem?_set_ne hyr];exact hlr
 obtain ⟨ry,hry,hty⟩:=H3.tab (y:=y) (by omega);obtain ⟨rr,hrr,htr⟩:=H3.tab (y:=r) (by omega);rw [zb.t50,zA,zA,zb.zyq,sIx (i:=y) rfl hy,hty,rv9,yJ,jq,zB,zb.v18];by_cases ci:c<w
 .have hc:ly[c]? = some ly[c]:=List.getElem?_eq_getElem (by omega);have hc2:lr[c]? = some lr[c]:=List.getElem?_eq_getElem (by omega);have hce:(wQ f ly lr)[c]? = some (ly[c]-f*lr[c]):=by unfold wQ;rw [List.getElem?_zipWith,hc,hc2]
  have cy:=λop=>H3.cell hry hrow (zq6 hE hc) op;have cr:=λop=>H3.cell hrr hrow2 hc2 op;have mr:=Zau (l:=lr) (n:=c) (by omega);rw [Zac (by omega),zC,zG,zA,zJ,zb.zni,sIx (i:=y) rfl hy,hty,sIx (i:=y) rfl hy,hty,rv9,sIx (i:=c) rfl ci,cy,sIx (i:=r) rfl hr0,htr,rv9,sIx (i:=c) rfl ci,cr];refine zew hf (hqr _ mr) _ _ _ _ ?_;rintro _ rfl _;rw [cy,zH,sIx (i:=c) rfl ci];simp only [zH];rw [hty,rv9,zH,sIx (i:=y) rfl hy];simp only [zH];rw [hty,rv9,zH,sIx (i:=y) rfl hy];simp only [zH];refine zq3 (hqy _ (Zau (by omega))) (hqp _ mr) _ _ _ _ ?_;rintro _ rfl _;rw [hty,rv9,zH,sIx (i:=y) rfl hy];simp only [zH];rw [sIx (i:=c) rfl ci];refine H3.put (q:=ly[c]-f*lr[c]) hry hrow (by rw [Zae,Zah,Zch];omega) λh4 H4 => ?_;rw [List.set_set,zmz hE hce] at H4;rw [zb.zyr,um (by omega)];exact hR (m-1) _ _ _ _ (by omega) ⟨c+1,by congr 1,by omega,rfl,H4⟩
 .obtain rfl:c=w:=by omega
  rw [Zam (by omega),Zbs (by omega),Zbi] at H3;rw [Zab (by omega),zD,zV,yC];exact hK _ _ H3
def vJ (r j:Nat) (lr:List Rat) (i:Nat) (l:List Rat):List Rat:=if i=r then l else wQ (l.getD j 0) l lr
def tV (r j:Nat) (lr:List Rat) (M:List (List Rat)):List (List Rat):=M.mapIdx (vJ r j lr)
theorem zjj {a b:List Rat} (h:a.length=b.length):wQ 0 a b=a:=by
 unfold wQ;refine Zca λi => ?_;rw [List.getElem?_zipWith];by_cases c:i<a.length
 .rw [List.getElem?_eq_getElem c,List.getElem?_eq_getElem (show i<b.length by omega)];simp only [Zbm,Zfl,Option.some.injEq];exact Zeu _
 .rw [List.getElem?_eq_none (show a.length<=i by omega)]
theorem zb8 {r j:Nat} {lr:List Rat} {M:List (List Rat)} {i:Nat} {l:List Rat} (h:M[i]? = some l):(tV r j lr M)[i]? = some (vJ r j lr i l):=by
 unfold tV;rw [List.getElem?_mapIdx,h];rfl
theorem zm0 {E M:List (List Rat)} {y:Nat} {l:List Rat} (hle:E.length=M.length) (hq:M[y]? = some l):(E.take y++M.drop y)[y]? = some l:=by
 have hc:=(List.getElem?_eq_some_iff.1 hq).1;rw [List.getElem?_append_right (by rw [Zah];omega),Zah,List.getElem?_drop,show y+(y-min y E.length)=y by omega];exact hq
theorem zjk {E M:List (List Rat)} {y:Nat} {l:List Rat} (hle:E.length=M.length) (hq:E[y]? = some l):(E.take y++M.drop y).set y l=E.take (y+1)++M.drop (y+1):=by
 have hc:=(List.getElem?_eq_some_iff.1 hq).1;rw [Zbj (show y<M.length by omega),dT (by rw [Zah];omega),Zar,hq];simp
theorem zm1 {r j:Nat} {lr:List Rat} {M:List (List Rat)} {y:Nat} (hlr:M[r]? = some lr):((tV r j lr M).take y++M.drop y)[r]? = some lr:=by
 have hE:(tV r j lr M).length=M.length:=by unfold tV;rw [Zde]
 have hr:=(List.getElem?_eq_some_iff.1 hlr).1;by_cases c:r<y
 .rw [List.getElem?_append_left (by rw [Zah];omega),List.getElem?_take_of_lt c,zb8 hlr,vJ,if_pos rfl]
 .rw [List.getElem?_append_right (by rw [Zah];omega),Zah,List.getElem?_drop,show y+(r-min y (tV r j lr M).length)=r by omega];exact hlr
theorem qbg (op:KW3->OP) (h:T Blk) (nx:Pa) (k:KW3):sGW (.bool true) false op h nx k=k .u h nx:=nr rfl
theorem zye (op:KW3->OP) (h:T Blk) (nx:Pa) (k:KW3):sGW (.bool false) false op h nx k=op k:=nr rfl
theorem zyf {M:List (List Rat)} {lr:List Rat} {tid:Pa} {rs:List Pa} {L:List Ob} {w r j N:Nat} {h0 h:T Blk} {nx:Pa} {O:fQ Prop} {Kf K2:Ks Prop} {x1 x2 x3 x5 x7 x8 x10 x11 x12 x13 x14 x15 x16 x17 x18:AV}
  (H:PM h0 h nx tid rs w L M) (hlr:M[r]? = some lr) (hj:j<w) (hM:M.length<=100000) (hw:w<=100000) (hN:100010<=N) (hq:∀ l∈M,∀ q∈l,Qd q) (hqp:∀ l∈M,∀ q∈lr,Qd (l.getD j 0*q))
  (hK:∀ (h':T Blk) (x10 x11 x16 x17 x18:AV),PM h0 h' nx tid rs w L (tV r j lr M)->Kf (zb.fr (.sl tid 0 M.length none 1) x1 x2 x3 (I (j:Int)) x5 (I (r:Int)) x7 x8 (I (M.length:Int)) x10 x11 x12 x13 x14 x15 x16 x17 x18) h' nx=.ok True) :
  IR.run zb.t60 (CS Tryz.prog B) N (O.blk 6 Kf) K2 (zb.fr (.sl tid 0 M.length none 1) x1 x2 x3 (I (j:Int)) x5 (I (r:Int)) x7 x8 (I 0) x10 x11 x12 x13 x14 x15 x16 x17 x18) h nx=.ok True:=by
 have hr0:=(List.getElem?_eq_some_iff.1 hlr).1;have hlw2:=H.2.1 lr (Zad hlr);have hE:(tV r j lr M).length=M.length:=by unfold tV;rw [Zde]
 refine zb.zyu (λm x9 h' nx'=>∃ y:Nat,x9=I (y:Int)/\m+y=M.length/\nx'=nx/\PM h0 h' nx tid rs w L ((tV r j lr M).take y++M.drop y)) (m:=M.length) (by omega) ⟨0,rfl,rfl,rfl,by
  rw [Zdm,Zbo,Zdg];exact H⟩ ?_
 rintro m z9 z10 z11 z16 z17 z18 h3 nx3 R ⟨y,rfl,hm,rfl,H3⟩ hR;have hl3:((tV r j lr M).take y++M.drop y).length=M.length:=by rw [Zae,Zah,Zch];omega
 rw [zb.t59,zA,zA,zb.zfr,yJ,jq,zB,zb.v16];by_cases cy:y<M.length
 case neg =>
  obtain rfl:y=M.length:=by omega
  rw [Zam (by omega),Zbs (by omega),Zbi] at H3;rw [Zab (by omega),zD,zV,yC];exact hK _ _ _ _ _ _ H3
 have hly:M[y]? = some M[y]:=List.getElem?_eq_getElem cy;have hmy:=Zau cy;have hlw:=H.2.1 _ hmy;have hrow:=zm0 hE hly;have hrow2:=zm1 (j:=j) (y:=y) hlr;have hstep:=zjk hE (zb8 (r:=r) (j:=j) (lr:=lr) hly);obtain ⟨ry,hry,hty⟩:=H3.tab (y:=y) (by omega);have hcj:M[y][j]? = some (M[y].getD j 0):=by
  rw [Zaa,List.getElem?_eq_getElem (show j<M[y].length by omega)];rfl
 have hc:=λop=>H3.cell hry hrow hcj op;have next:∀ {h4:T Blk} {x10 x11 x16 x17 x18:AV},PM h0 h4 nx3 tid rs w L ((tV r j lr M).take (y+1)++M.drop (y+1))->zb.t57.run (CS Tryz.prog B) N (O.blk 6 Kf) R (zb.fr (.sl tid 0 M.length none 1) x1 x2 x3 (I (j:Int)) x5 (I (r:Int)) x7 x8 (I (y:Int)) x10 x11 x12 x13 x14 x15 x16 x17 x18) h4 nx3=.ok True:=by
  intro h4 x10 x11 x16 x17 x18 H4;rw [zb.zyt,um (by omega)];exact hR (m-1) _ _ _ _ _ _ _ _ (by omega) ⟨y+1,by congr 1,by omega,rfl,H4⟩
 rw [Zac (by omega),zC,zG,zA,zJ,zA,zb.zfs,sIx (i:=y) rfl cy,hty,rv9,sIx (i:=j) rfl hj,hc,zA,zA,zb.zng,qx];by_cases e:y=r
 .have hsame:vJ r j lr y M[y]=M[y]:=by rw [vJ,if_pos e]
  rw [hsame,zb7 hrow] at hstep;rw [hstep] at H3;rw [Zac (by omega)];simp only [jM];rw [qbg];simp only [zW];rw [zB,zb.v17,zC,zV,yC];exact next H3
 rw [Zab (by omega)];simp only [y4];rw [zye];refine d8 _ _ _ _ ?_;rintro _ rfl _;simp only [zZ];have hclr:vJ r j lr y M[y]=wQ (M[y].getD j 0) M[y] lr:=by rw [vJ,if_neg e]
 rw [hclr] at hstep;by_cases z:M[y].getD j 0=0
 .rw [z,zjj (by omega),zb7 hrow] at hstep;rw [hstep] at H3;rw [Zac z,zB,zb.v17,zC,zV,yC];exact next H3
 .rw [Zab z,zB,zb.v17,zD,zG,zA,zb.znh,zJ,<- hl3];refine qbf H3 hrow hrow2 e (by omega) hw hN (hq _ hmy _ (Zad hcj)) (hq _ hmy) (hq _ (Zad hlr)) (hqp _ hmy) λh4 x18 H4 => ?_;rw [hstep] at H4;rw [hl3];exact next H4
theorem ztw {M:List (List Rat)} {tid:Pa} {rs:List Pa} {L:List Ob} {w r j N:Nat} {h0 h:T Blk} {nx:Pa} {O:fQ Prop} {Kf K2:Ks Prop} {x1 x2 x3 x6 x7 x8 x9 x10 x11 x12 x13 x14 x15 x16 x17 x18:AV}
  (H:PM h0 h nx tid rs w L M) (hr:r<=M.length) (hj:j<w) (hM:M.length<=100000) (hN:100010<=N)
  (hK:∀ (i:Nat) (x13:AV),r<=i->i<=M.length->(∀ i' l,r<=i'->i'<i->M[i']? = some l->l.getD j 0=0)->(∀ l,M[i]? = some l->l.getD j 0≠0)->Kf (zb.fr (.sl tid 0 M.length none 1) x1 x2 x3 (I (j:Int)) (I (i:Int)) x6 x7 x8 x9 x10 x11 x12 x13 x14 x15 x16 x17 x18) h nx=.ok True) :
  IR.run zb.t14 (CS Tryz.prog B) N (O.blk 2 Kf) K2 (zb.fr (.sl tid 0 M.length none 1) x1 x2 x3 (I (j:Int)) (I (r:Int)) x6 x7 x8 x9 x10 x11 x12 x13 x14 x15 x16 x17 x18) h nx=.ok True:=by
 refine zb.zfl (λm x5 h' nx'=>∃ i:Nat,x5=I (i:Int)/\m+i=M.length/\r<=i/\(∀ i' l,r<=i'->i'<i->M[i']? = some l->l.getD j 0=0)/\h'=h/\nx'=nx) (m:=M.length-r) (by omega) ⟨r,rfl,by omega,Zaf _,λ_ _ a b=>by omega,rfl,rfl⟩ ?_;rintro m z5 z13 h3 nx3 R ⟨i,rfl,hm,hri,hz,rfl,rfl⟩ hR;rw [zb.t13,zA,zA,zb.fE,zb.r6_0,zb.zdq,yJ,jq];by_cases c:i<M.length
 case neg =>
  rw [Zab (by omega)];simp only [jF];rw [zb.r6_1,zb.oG];simp only [jF];rw [zjg,zb.r6_2,zb.znf];simp only [zZ];rw [zB,zb.v13,zD,zV,yC];exact hK i _ hri (by omega) hz λl hl=>by rw [List.getElem?_eq_none (by omega)] at hl;cases hl
 have hly:M[i]? = some M[i]:=List.getElem?_eq_getElem c;have hlw:=H.2.1 _ (Zau c);obtain ⟨ry,hry,hty⟩:=H.tab (y:=i) c;have hcj:M[i][j]? = some (M[i].getD j 0):=by
  rw [Zaa,List.getElem?_eq_getElem (show j<M[i].length by omega)];rfl
 have hc:=λop=>H.cell hry hly hcj op;rw [Zac (by omega)];simp only [yL];rw [sIx (i:=i) rfl c,zb.r6_1,zb.oG];simp only [yL];rw [hty];rw [rv9,sIx (i:=j) rfl hj,hc,zeu];refine d8 _ _ _ _ ?_;rintro _ rfl _;rw [zb.r6_2,zb.znf];simp only [zW];by_cases z:M[i].getD j 0=0
 .rw [Zac z,zB,zb.v13,zC,zG,zJ,zb.pu,um (by omega)];refine hR (m-1) _ _ _ _ (by omega) ⟨i+1,by congr 1,by omega,by omega,λi' l h1 h2 h3 => ?_,rfl,rfl⟩;rcases Zdb i' i with q | q
  .exact hz i' l h1 q h3
  .obtain rfl:i'=i:=by omega
   rw [hly] at h3;cases h3
   exact z
 .rw [Zab z,zB,zb.v13,zD,zV,yC];exact hK i _ hri (by omega) hz λl hl=>by rw [hly] at hl;cases hl;exact z
theorem vA {α β γ:Type} (f:α->β->γ):∀ (l:List α) (m:List β) (i:Nat) (a:α) (b:β),List.zipWith f (l.set i a) (m.set i b)=(List.zipWith f l m).set i (f a b)
 | [],_,_,_,_=>by simp
 | _::_,[],_,_,_=>by simp
 | x::l,y::m,0,a,b=>rfl
 | x::l,y::m,i+1,a,b=>by simp only [Zfm,Zfu,vA f l m i a b]
theorem zhm {rs:List Pa} {M:List (List Rat)} {i r:Nat} {pi pr:Pa} {li lr:List Rat} (h1:rs[i]? = some pi) (h2:rs[r]? = some pr) (h3:M[i]? = some li) (h4:M[r]? = some lr) :
  (jS ((rs.set i pr).set r pi) ((M.set i lr).set r li)).Perm (jS rs M):=by
 unfold jS;rw [vA,vA];have e1:(List.zipWith (λr l=>Ob.arr r (l.map T9)) rs M)[i]? = some (.arr pi (li.map T9)):=u6 h1 h3;have e2:(List.zipWith (λr l=>Ob.arr r (l.map T9)) rs M)[r]? = some (.arr pr (lr.map T9)):=u6 h2 h4
 generalize List.zipWith (λr l=>Ob.arr r (l.map T9)) rs M=Z at *
 have l1:=(List.getElem?_eq_some_iff.1 e1);have l2:=(List.getElem?_eq_some_iff.1 e2);obtain ⟨k1,k2⟩:=l1;obtain ⟨k3,k4⟩:=l2;rw [<- k2,<- k4];exact List.set_set_perm k1 k3
theorem qbh {M:List (List Rat)} {tid:Pa} {rs:List Pa} {L:List Ob} {w i r:Nat} {li lr:List Rat} {h0 h:T Blk} {nx:Pa} {K:Kw Prop} (H:PM h0 h nx tid rs w L M) (h3:M[i]? = some li) (h4:M[r]? = some lr)
  (hK:∀ (h':T Blk) (rs':List Pa),PM h0 h' nx tid rs' w L ((M.set i lr).set r li)->K .u h' nx=.ok True) :
  (zL 1 (.sl tid 0 M.length none 1) (I (r:Int)) λv1=>zI v1 h λv2=>zL 1 (.sl tid 0 M.length none 1) (I (i:Int)) λv3=>zI v3 h λv4=>zL 1 (.sl tid 0 M.length none 1) (I (i:Int)) λv5=>zX 1 v5 v2 h nx λ_ h7 n8=>zQ (I (r:Int)) (I (r:Int)) (zQ (.sl tid 0 M.length none 1) (.sl tid 0 M.length none 1) (zL 1 (.sl tid 0 M.length none 1) (I (r:Int)) λv9=>zX 1 v9 v4 h7 n8 K)))=.ok True:=by
 have hi:=(List.getElem?_eq_some_iff.1 h3).1;have hr:=(List.getElem?_eq_some_iff.1 h4).1;obtain ⟨pr,hpr,tr⟩:=H.tab (y:=r) hr;obtain ⟨pi,hpi,ti⟩:=H.tab (y:=i) hi;obtain ⟨g1,g2,g3⟩:=H;rw [sIx (i:=r) rfl hr,tr,sIx (i:=i) rfl hi,ti,sIx (i:=i) rfl hi];refine g3.store (k:=0) rfl (by rw [Zai];omega) rfl λh5 H5 => ?_;simp only [zH];rw [sIx (i:=r) rfl hr];refine H5.store (k:=0) rfl (by rw [Zan,Zai];omega) rfl λh6 H6 => ?_;simp only [Zgm] at H6;rw [<- Zet,<- Zet] at H6;refine hK h6 ((rs.set i pr).set r pi) ⟨by simp [g1],λl hl => ?_,H6.perm (((zhm hpi hpr h3 h4).symm.append_right _).cons _)⟩;rcases Zbe hl with e | e
 .rcases Zbe e with e | e
  .exact g2 _ e
  .rw [e];exact g2 _ (Zad h4)
 .rw [e];exact g2 _ (Zad h3)
def rP (i r j:Nat) (li lr:List Rat) (M:List (List Rat)):List (List Rat) :=
 let row:=li.map (· * (li.getD j 0)⁻¹)
 tV r j row (((M.set i lr).set r li).set r row)
theorem zyg {M:List (List Rat)} {P:List Nat} {li lr:List Rat} {o:Option Pa} {tid:Pa} {rs:List Pa} {w i j N:Nat} {h0 h:T Blk} {nx:Pa} {O:fQ Prop} {R:Ks Prop} {x1 x2 x6 x7 x8 x9 x10 x11 x12 x13 x14 x15 x16 x17 x18:AV}
  (H:PM h0 h nx tid rs w [.gro o 1 P.length (P.map D)] M) (hli:M[i]? = some li) (hlr:M[P.length]? = some lr) (hz:li.getD j 0≠0) (hj:j<w) (hM:M.length<=100000) (hw:w<=100000) (hN:100010<=N)
  (hq:∀ l∈M,∀ q∈l,Qd q) (hs:Qd (li.getD j 0)⁻¹) (hrow:∀ q∈li.map (· * (li.getD j 0)⁻¹),Qd q) (hqp:∀ l∈((M.set i lr).set P.length li).set P.length (li.map (· * (li.getD j 0)⁻¹)),∀ q∈li.map (· * (li.getD j 0)⁻¹),Qd (l.getD j 0*q)) (hP:P.length<100000)
  (hK:∀ (o':Option Pa) (rs':List Pa) (h':T Blk) (nx':Pa) (x5 x6 x7 x8 x9 x10 x11 x12 x13 x14 x15 x16 x17 x18:AV),PM h0 h' nx' tid rs' w [.gro o' 1 (P.length+1) ((P++[j]).map D)] (rP i P.length j li lr M)->R (zb.fr (.sl tid 0 M.length none 1) x1 x2 (uy o' 1 (P.length+1)) (I (j:Int)) x5 x6 x7 x8 x9 x10 x11 x12 x13 x14 x15 x16 x17 x18) h' nx'=.ok True) :
  IR.run zb.t69 (CS Tryz.prog B) N O R (zb.fr (.sl tid 0 M.length none 1) x1 x2 (uy o 1 P.length) (I (j:Int)) (I (i:Int)) x6 x7 x8 x9 x10 x11 x12 x13 x14 x15 x16 x17 x18) h nx=.ok True:=by
 have hi:=(List.getElem?_eq_some_iff.1 hli).1;have hlen:∀ KK:AV->OP,sLen (uy o 1 P.length) KK=KK (I (P.length:Int)):=λKK=>by
  cases o with
  | some id=>exact yJ ..
  | none =>
   obtain ⟨_,e⟩:P.map D=[]/\P.length=0:=H.2.2.own (.gro none 1 P.length (P.map D)) (by simp);rw [e];exact yI ..
 rw [zb.t69,zA,zA,zb.au,yJ,qx,Zab (by omega),zB,zb.v14,zD,zG,zA,zb.rX,hlen,zA,zb.aD];refine qbh H hli hlr λh1 rs1 H1 => ?_;have hl1:((M.set i lr).set P.length li).length=M.length:=by rw [Zan,Zan]
 have hr:=(List.getElem?_eq_some_iff.1 hlr).1;have zv4:((M.set i lr).set P.length li)[P.length]? = some li:=List.getElem?_set_self (by rw [Zan];exact hr);have hlw:=H.2.1 _ (Zad hli);obtain ⟨r1,hr1,ht1⟩:=H1.tab (y:=P.length) (by omega);have hcj:li[j]? = some (li.getD j 0):=by
  rw [Zaa,List.getElem?_eq_getElem (show j<li.length by omega)];rfl
 have hc:=λop=>H1.cell hr1 zv4 hcj op;rw [zA,zb.zfh,sIx (i:=P.length) rfl hr,ht1,rv9,sIx (i:=j) rfl hj,hc];refine pJ (hq _ (Zad hli) _ (Zad hcj)) hz _ _ _ _ ?_;rintro _ rfl _;rw [zA,zA,zb.aQ,zJ,<- hl1];refine zyd H1 zv4 (by omega) hw hN hs (hq _ (Zad hli)) λh2 y15 H2 => ?_;have hl2:(((M.set i lr).set P.length li).set P.length (li.map (· * (li.getD j 0)⁻¹))).length=((M.set i lr).set P.length li).length:=Zan;have hrow2:(((M.set i lr).set P.length li).set P.length (li.map (· * (li.getD j 0)⁻¹)))[P.length]? = some (li.map (· * (li.getD j 0)⁻¹)):=List.getElem?_set_self (by omega);rw [zA,zA,zb.zfj,zJ,<- hl2];refine zyf H2 hrow2 hj (by omega) hw hN ?_ hqp λh3 y10 y11 y16 y17 y18 H3 => ?_
 .intro l hl q hq';rcases Zbe hl with e | e
  .rcases Zbe e with e | e
   .rcases Zbe e with e | e
    .exact hq _ e _ hq'
    .subst e;exact hq _ (Zad hlr) _ hq'
   .subst e;exact hq _ (Zad hli) _ hq'
  .subst e;exact hrow _ hq'
 rw [hl2,hl1,zb.zyv];obtain ⟨k1,k2,k3⟩:=H3;have H4:=k3.perm ((Zdl _ _).cons _ |>.trans (.swap _ _ _));refine H4.oU (v:=D j) (by omega) (by decide) rfl rfl λo' h4 nx4 H5 => ?_;refine hK o' rs1 h4 nx4 _ _ _ _ _ _ _ _ _ _ _ _ _ _ ⟨k1,k2,?_⟩;have H6:=H5.perm ((List.Perm.swap _ _ _).trans ((Zdl _ _).symm.cons _));rw [Zbp];exact H6
theorem vB {l c:List AV} {off:Nat} (h:off+c.length<=l.length):(gQ l off c).length=l.length:=by
 unfold gQ;rw [Zae,Zae,Zah,Zch];omega
theorem pR {l c:List AV} {off m:Nat} (h:off+c.length<=l.length):(gQ l off c)[m]? = if off<=m/\m<off+c.length then c[m-off]? else l[m]? := by
 unfold gQ;have ht:(l.take off).length=off:=by rw [Zah];omega
 by_cases h1:m<off
 .rw [if_neg (by omega),Zbu,List.getElem?_append_left (by omega),List.getElem?_take_of_lt h1]
 .by_cases h2:m<off+c.length
  .rw [if_pos (by omega),Zbu,List.getElem?_append_right (by omega),ht,List.getElem?_append_left (by omega)]
  .rw [if_neg (by omega),Zbu,List.getElem?_append_right (by omega),ht,List.getElem?_append_right (by omega),List.getElem?_drop]
   congr 1;omega
theorem Hp.tJ {h0 h:T Blk} {nx:Pa} {L:List Ob} {k n off:Nat} {id:Pa} {l l2:List AV} {K:Kw Prop} (H:Hp h0 h nx L) (hk:L[k]? = some (.arr id l)) (hle:off+n<=l.length) (hl2:l2.length=n) (hK:∀ h',Hp h0 h' nx (L.set k (.arr id (gQ l off l2)))->K .u h' nx=.ok True):zX n (.ptr id off) (.agg l2) h nx K=.ok True:=by
 obtain ⟨o,t,h1,h2⟩:=H.own _ (Zad hk);show qc (T.get .no id h) _ _=_;rw [h1];show (bif Nat.beq l2.length n&&Nat.ble (off+n) l.length then gZ l2 t off (λt'=>T.fw Blk.no (.cells o l.length t') id h λh'=>K .u h' nx) else .no 42)=_;rw [eu hl2,Zag hle];simp only [Zgr,cond_true];rw [jL,T.gy];refine hK _ (H.upd hk (by simp [Ob.names]) rfl ⟨o,_,by rw [T.get_set_same,vB (by omega)],?_⟩);rw [vB (by omega)];apply Zca;intro i;rw [pR (by omega)];by_cases hi:i<l.length
 .rw [yK _ _ _ _ hi,Zbl,u5];have hr:=yK t 0 l.length i hi;rw [h2,Zbl] at hr;by_cases hc:off<=i/\i<off+l2.length
  .rw [if_pos hc,if_pos hc,Zaa,List.getElem?_eq_getElem (by omega)];rfl
  .rw [if_neg hc,if_neg hc];exact hr.symm
 .rw [List.getElem?_eq_none (by simp;omega),if_neg (by omega),List.getElem?_eq_none (by omega)]
def aK (c:List AV) (j:Nat) (x:Rat):Prop:=∃ s w s' w',(c.drop (j*4)).take 4=[s,w,s',w']/\qm s w x.num/\qm s' w' (x.den:Int)
def su (c:List AV) (q:List Rat):Prop:=c.length=q.length*4/\∀ j x,q[j]? = some x->aK c j x
theorem zq7 {c d:List AV} {i j:Nat} (h:∀ t,t<4->c[i+t]? = d[j+t]?):(c.drop i).take 4=(d.drop j).take 4:=by
 apply Zca;intro t;by_cases ht:t<4
 .rw [List.getElem?_take_of_lt ht,List.getElem?_take_of_lt ht,List.getElem?_drop,List.getElem?_drop];exact h t ht
 .rw [List.getElem?_eq_none (by rw [Zah];omega),List.getElem?_eq_none (by rw [Zah];omega)]
theorem aK.same {c:List AV} {j:Nat} {x:Rat} {s w s' w':AV} (hj:j*4+4<=c.length) (h1:qm s w x.num) (h2:qm s' w' (x.den:Int)):aK (gQ c (j*4) [s,w,s',w']) j x:=by
 refine ⟨s,w,s',w',?_,h1,h2⟩;have:[s,w,s',w']=(([s,w,s',w']:List AV).drop 0).take 4:=rfl;rw [this];refine zq7 λt ht => ?_;rw [pR (by simpa using hj),if_pos ⟨by omega,by simp;omega⟩];simp
theorem aK.other {c:List AV} {i j:Nat} {x:Rat} {s w s' w':AV} (hj:j*4+4<=c.length) (hij:i≠j) (h:aK c i x):aK (gQ c (j*4) [s,w,s',w']) i x:=by
 obtain ⟨a,b,a',b',e,h1,h2⟩:=h;refine ⟨a,b,a',b',?_,h1,h2⟩;rw [<- e];refine zq7 λt ht => ?_;rw [pR (by simpa using hj),if_neg];simp only [Zbd,Zfe];omega
theorem su.put {c:List AV} {q:List Rat} {j:Nat} {x:Rat} {s w s' w':AV} (h:su c q) (hj:j<q.length) (h1:qm s w x.num) (h2:qm s' w' (x.den:Int)):su (gQ c (j*4) [s,w,s',w']) (q.set j x):=by
 have hl:j*4+4<=c.length:=by rw [h.1];omega
 refine ⟨by rw [vB (by simpa using hl),Zan];exact h.1,λi y hy => ?_⟩;by_cases e:i=j
 .subst e;rw [List.getElem?_set_self hj] at hy;obtain rfl:=Option.some.inj hy;exact aK.same hl h1 h2
 .rw [List.getElem?_set_ne (by omega)] at hy;exact aK.other hl e (h.2 i y hy)
theorem su.get {c:List AV} {q:List Rat} {j:Nat} {x:Rat} (h:su c q) (hx:q[j]? = some x):∃ cs,(c.drop (j*4)).take 4=cs/\j*4+4<=c.length/\j<q.length/\yR (.agg cs) x:=by
 obtain ⟨s,w,s',w',e,h1,h2⟩:=h.2 j x hx;have hj:=(List.getElem?_eq_some_iff.1 hx).1;exact ⟨_,e,by rw [h.1];omega,hj,s,w,s',w',rfl,h1,h2⟩
abbrev rwV (n:Nat) (r:Pa):AV:=.sl r 0 n (some n) 4
theorem oO {r:Pa} {n j:Nat} {z:Int} {op:AV->OP} (hz:z=(j:Int)) (hj:j<n):zL 4 (rwV n r) (I z) op=op (.ptr r (j*4)):=by
 subst hz;rw [qP hj,Zbl]
theorem zv5 {n j:Nat} {l:List AV} {z:Int} {op:AV->OP} (hz:z=(j:Int)) (hj:j<n):zL 4 (.lst 4 n l) (I z) op=op (.fp (l.drop (j*4))):=fO hz hj
theorem rat0:((0:Int):Rat)=0:=rfl
theorem rat1:((1:Int):Rat)=1:=rfl
theorem zq8 (n:Nat) (z:List AV):(nW n z).length=n*z.length:=by
 induction n with
 | zero=>show ([]:List AV).length=_;rw [Zer];rfl
 | succ n ih=>show (z++nW n z).length=_;rw [Zae,ih,Zbf,Zcv,Zdp]
theorem zhn {h0 h:T Blk} {nx p:Pa} {L:List Ob} {n:Nat} {K:Kw Prop} (H:Hp h0 h nx L) (hn:n<=1000) (hK:∀ id c h' nx',su c (List.replicate n 0)->Hp h0 h' nx' (.arr id c::L)->K (rwV n id) h' nx'=.ok True):(CS Tryz.prog B).fn 105 p [I (n:Int)] h nx K=.ok True:=by
 refine zN zP yD 2000 λhf => ?_;rw [jm.go,jm.t20,zA,jm.zy,zA,jm.zx];refine H.mkN (n:=n) (c:=n) rfl rfl (Zaf _) (by omega) (by omega) λid h1 nx1 H1 => ?_;rw [zA,zA,jm.jb,yJ,zJ];refine jm.znj (λm x5 h' nx'=>∃ (i:Nat) (c:List AV),x5=I (i:Int)/\m+i=n/\c.length=n*4/\(∀ j,j<i->aK c j 0)/\Hp h0 h' nx' (.arr id c::L)) (m:=n) (by omega) ⟨0,_,rfl,rfl,zq8 _ _,λj hj=>by omega,H1⟩ ?_;rintro m z3 z5 z6 h3 nx3 R ⟨i,c,rfl,hm,hc,hall,H3⟩ hR;rw [jm.t12,zA,jm.dw,jq,zA,zB,jm.v6];by_cases ci:i<n
 .rw [Zac (by omega),zC,zG,zA,zJ,zA,jm.rE,jm.qg];refine zb3 (by unfold rH;omega) _ _ _ _ ?_;rintro _ ⟨s,w,s',w',rfl,i1,i2⟩ _;rw [rat0] at i1 i2;rw [oO (j:=i) rfl ci];refine H3.tJ (k:=0) (off:=i*4) rfl (by omega) rfl λh4 H4 => ?_;rw [jm.rF,um (by omega)];refine hR (m-1) _ _ _ _ _ (by omega) ⟨i+1,_,by congr 1,by omega,by rw [vB (by simp;omega)];exact hc,λj hj => ?_,H4⟩;by_cases e:j=i
  .subst e;exact aK.same (by omega) i1 i2
  .exact aK.other (by omega) e (hall j (by omega))
 .rw [Zab (by omega),zD,zV,yC,zA,jm.au];simp only [zE,zM];rw [jm.ret];refine hK id c _ _ ⟨by rw [Zba];exact hc,λj x hx => ?_⟩ H3;have hj:=(List.getElem?_eq_some_iff.1 hx).1;rw [Zba] at hj;rw [List.getElem?_replicate,if_pos hj] at hx;obtain rfl:=Option.some.inj hx;exact hall j (by omega)
def rQ (n:Nat) (l:List Int):List Rat:=l.foldl (λq c=>q.set c.toNat 1) (List.replicate n 0)
theorem cD (n:Nat) (l:List Int) (c:Int):rQ n (l++[c])=(rQ n l).set c.toNat 1:=by unfold rQ;rw [Zgu];rfl
theorem pN:∀ (l:List Int) (q:List Rat),(l.foldl (λq c=>q.set c.toNat 1) q).length=q.length
 | [],_=>rfl
 | c::l,q=>by rw [Zdz,pN l,Zan]
theorem yH (n:Nat) (l:List Int):(rQ n l).length=n:=by unfold rQ;rw [pN,Zba]
theorem mS {h0 h:T Blk} {nx p:Pa} {L:List Ob} {n:Nat} {l:List Int} {K:Kw Prop} (H:Hp h0 h nx L) (hn:n<=1000) (hl:l.length<=1000) (hr:∀ c∈l,0<=c/\c<(n:Int)) (hK:∀ id c h' nx',su c (rQ n l)->Hp h0 h' nx' (.arr id c::L)->K (rwV n id) h' nx'=.ok True):(CS Tryz.prog B).fn 104 p [I (n:Int),encI l] h nx K=.ok True:=by
 refine zN zP yD 2000 λhf => ?_;rw [jl.go,jl.t20,zA,jl.zy,zA,jl.zx];refine zhn H hn λid c h1 nx1 hc H1 => ?_;rw [zA,zA,jl.jb,yA,zJ];refine jl.znj (λm x7 h' nx'=>∃ (i:Nat) (c:List AV),x7=I (i:Int)/\m+i=l.length/\su c (rQ n (l.take i))/\Hp h0 h' nx' (.arr id c::L)) (m:=l.length) (by omega) ⟨0,c,rfl,rfl,hc,H1⟩ ?_;rintro m z4 z7 z8 h3 nx3 R ⟨i,c,rfl,hm,hc,H3⟩ hR;rw [jl.t12,zA,jl.dw,jq,zA,zB,jl.v8];by_cases ci:i<l.length
 .have hx:l[i]? = some l[i]:=List.getElem?_eq_getElem ci;have hb:=hr _ (Zau ci);rw [Zac (by omega),zC,zG,zA,zJ,zA,jl.rE,fO rfl ci,ldL (aI hx),jl.qg];refine zb3 (by unfold rH;omega) _ _ _ _ ?_;rintro _ ⟨s,w,s',w',rfl,i1,i2⟩ _;rw [rat1] at i1 i2;have hcl:=hc.1;rw [yH] at hcl;rw [oO (j:=l[i].toNat) (by omega) (by omega)];refine H3.tJ (k:=0) (off:=l[i].toNat*4) rfl (by omega) rfl λh4 H4 => ?_;rw [jl.rF,um (by omega)];refine hR (m-1) _ _ _ _ _ (by omega) ⟨i+1,_,by congr 1,by omega,?_,H4⟩;rw [Zar,hx,Zbn,cD];exact hc.put (by rw [yH];omega) i1 i2
 .rw [Zab (by omega),zD,zV,yC,zA,jl.au];simp only [zE,zM];rw [jl.ret];rw [Zam (by omega)] at hc;exact hK id c _ _ hc H3
def jD (b:Rat) (r o:List Rat):List Rat:=List.zipWith (λx y=>x-b*y) r o
theorem pget {l e:List Rat} {c:Nat} {q:Rat} (hle:e.length=l.length) (hq:l[c]? = some q):(e.take c++l.drop c)[c]? = some q:=by
 have hc:=(List.getElem?_eq_some_iff.1 hq).1;rw [List.getElem?_append_right (by rw [Zah];omega),Zah,List.getElem?_drop,show c+(c-min c e.length)=c by omega];exact hq
theorem zv6 {l e:List Rat} {c:Nat} {q:Rat} (hle:e.length=l.length) (hq:e[c]? = some q):(e.take c++l.drop c).set c q=e.take (c+1)++l.drop (c+1):=by
 have hc:=(List.getElem?_eq_some_iff.1 hq).1;rw [Zbj (show c<l.length by omega),dT (by rw [Zah];omega),Zar,hq];simp
theorem zv7 {l e:List Rat} {c:Nat} {q:Rat} (hle:e.length=l.length) (hq:e[c]? = some q) (hl:l[c]? = some q):e.take c++l.drop c=e.take (c+1)++l.drop (c+1):=by
 have hc:=(List.getElem?_eq_some_iff.1 hq).1;have h1:l[c]'(by omega)=q:=by rw [List.getElem?_eq_getElem (by omega)] at hl;exact Option.some.inj hl
 rw [Zbj (show c<l.length by omega),Zar,hq,h1];simp
theorem zex {h0 h:T Blk} {nx p r o:Pa} {L:List Ob} {kr ko n M N P R:Nat} {cr co:List AV} {qr qo:List Rat} {v:AV} {b:Rat} {K:Kw Prop} (H:Hp h0 h nx L) (hkr:L[kr]? = some (.arr r cr)) (hko:L[ko]? = some (.arr o co)) (hne:ko≠kr) (hr:su cr qr) (ho:su co qo) (hlr:qr.length=n) (hlo:qo.length=n) (hn:n<=1000) (hv:yR v b) (hb:jk M b) (hqr:∀ x∈qr,jk P x) (hqo:∀ x∈qo,jk N x) (hqp:∀ x∈qo,jk R (b*x)) (hMN:M*N<=9223372036854775807) (hPR:2*(P*R)<=9223372036854775807)
  (hK:∀ c h' nx',su c (jD b qr qo)->Hp h0 h' nx' (L.set kr (.arr r c))->K (.tup []) h' nx'=.ok True):(CS Tryz.prog B).fn 106 p [rwV n r,v,rwV n o] h nx K=.ok True:=by
 refine zN zP yD 2000 λhf => ?_;obtain ⟨sb,wb,sb',wb',rfl,b1,b2⟩:=hv;have hkl:=(List.getElem?_eq_some_iff.1 hkr).1;have hE:(jD b qr qo).length=qr.length:=by unfold jD;rw [Zdt];omega
 rw [jv.go,jv.t18,zA,jv.zy];refine H.box (l:=[sb,wb,sb',wb']) rfl λbb h1 nx1 H1 => ?_;rw [zA,jv.zx,yJ,zJ]
 refine jv.zfk (λm x8 h' nx'=>∃ (i:Nat) (c:List AV),x8=I (i:Int)/\m+i=n/\su c ((jD b qr qo).take i++qr.drop i)/\Hp h0 h' nx' (.arr bb [sb,wb,sb',wb']::L.set kr (.arr r c))) (m:=n) (by omega) ⟨0,cr,rfl,rfl,by rw [Zdm,Zbo,Zdg];exact hr,by
  have:L.set kr (.arr r cr)=L:=by
   rw [List.getElem?_eq_getElem hkl] at hkr;rw [<- Option.some.inj hkr,List.set_getElem_self]
  rw [this];exact H1⟩ ?_
 rintro m z4 z5 z8 z9 z10 h3 nx3 R ⟨i,c,rfl,hm,hc,H3⟩ hR;rw [jv.t14,zA,jv.jb,jq,zA,zB,jv.v9];by_cases ci:i<n
 .have hx:qo[i]? = some qo[i]:=List.getElem?_eq_getElem (by omega);have hy:qr[i]? = some qr[i]:=List.getElem?_eq_getElem (by omega);have hz:(jD b qr qo)[i]? = some (qr[i]-b*qo[i]):=by unfold jD;rw [List.getElem?_zipWith,hy,hx]
  have mo:=Zau (l:=qo) (n:=i) (by omega);have mr:=Zau (l:=qr) (n:=i) (by omega);obtain ⟨cs,e1,e2,_,fo⟩:=ho.get hx;obtain ⟨cs2,e3,e4,hcj,fr⟩:=hc.get (pget hE hy);have hko3:(Ob.arr bb [sb,wb,sb',wb']::L.set kr (.arr r c))[ko+1]? = some (.arr o co):=by
   show (L.set kr (.arr r c))[ko]? = _;rw [List.getElem?_set_ne (by omega)];exact hko
  have hkr3:(Ob.arr bb [sb,wb,sb',wb']::L.set kr (.arr r c))[kr+1]? = some (.arr r c):=by
   show (L.set kr (.arr r c))[kr]? = _;rw [List.getElem?_set_self hkl]
  obtain ⟨so,wo,so',wo',e5,o1,o2⟩:=fo;obtain rfl:=AV.agg.inj e5;rw [Zac (by omega),zC,zG,zA,zJ,zA,jv.rD,oO (j:=i) rfl ci,H3.jg hko3 e2 e1];refine H3.alloc λxb h4 nx4 H4 => ?_;refine H4.yx (l2:=[so,wo,so',wo']) (k:=0) rfl rfl rfl λh5 H5 => ?_;rw [zA,jv.rE,H5.zk (k:=0) (n:=4) rfl rfl];refine xP ⟨_,_,_,_,rfl,o1,o2⟩ _ _ _ _ ?_;rintro _ rfl _;rw [fV,zB,jv.v10];by_cases d:qo[i]=0
  .have d2:qr[i]-b*qo[i]=qr[i]:=by rw [d,Zbg,Zfl,Rat.neg_zero,Zeu]
   rw [Zac (fe.2 (Rat.num_eq_zero.2 d)),Zap,zD,zG,jv.pu,um (by omega)];rw [d2] at hz;exact hR (m-1) _ _ _ _ _ _ _ (by omega) ⟨i+1,c,by congr 1,by omega,by rw [<- zv7 hE hz hy];exact hc,H5.drop⟩
  .rw [Zab (λq=>d (Rat.num_eq_zero.1 (fe.1 q))),Zal,zC,jv.qg];have lr:∀ op:AV->OP,zF 4 (.ptr r (i*4)) h5 op=op (.agg cs2):=λop=>H5.jg (k:=kr+2) hkr3 e4 e3;have lb:∀ op:AV->OP,zF 4 (.ptr bb 0) h5 op=op (.agg [sb,wb,sb',wb']):=λop=>H5.zk (k:=1) (n:=4) rfl rfl;have lx:∀ op:AV->OP,zF 4 (.ptr xb 0) h5 op=op (.agg [so,wo,so',wo']):=λop=>H5.zk (k:=0) (n:=4) rfl rfl;have ix:∀ op:AV->OP,zL 4 (rwV n r) (I (i:Int)) op=op (.ptr r (i*4)):=λop=>oO (j:=i) rfl ci;simp only [ix,lr,lb,lx];refine mY ⟨_,_,_,_,rfl,b1,b2⟩ ⟨_,_,_,_,rfl,o1,o2⟩ hb (hqo _ mo) hMN _ _ _ _ ?_;rintro v5 f5 _;simp only [lr,zH];refine zmv fr f5 (hqr _ mr) (hqp _ mo) hPR _ _ _ _ ?_;rintro _ ⟨s6,w6,s6',w6',rfl,i1,i2⟩ _;refine H5.tJ (k:=kr+2) (off:=i*4) hkr3 e4 rfl λh6 H6 => ?_;rw [jv.pu,um (by omega)];refine hR (m-1) _ _ _ _ _ _ _ (by omega) ⟨i+1,gQ c (i*4) [s6,w6,s6',w6'],by congr 1,by omega,?_,?_⟩
   .rw [<- zv6 hE hz];exact hc.put hcj i1 i2
   .exact (H6.cast (show ((Ob.arr xb [I 0,.za,I 0,.za]::Ob.arr bb [sb,wb,sb',wb']::L.set kr (.arr r c)).set 0 (Ob.arr xb [so,wo,so',wo'])).set (kr+2) (.arr r (gQ c (i*4) [s6,w6,s6',w6']))=Ob.arr xb [so,wo,so',wo']::Ob.arr bb [sb,wb,sb',wb']::L.set kr (.arr r (gQ c (i*4) [s6,w6,s6',w6'])) by
     show Ob.arr xb _::Ob.arr bb _::(L.set kr (.arr r c)).set kr _=_;rw [List.set_set])).drop
 .rw [Zab (by omega),zD,zV,yC];rw [jv.ret];rw [Zam (by omega),Zbs (by omega),Zbi] at hc;exact hK c _ _ hc H3.drop
def yQ (b:Rat) (r:List Rat):List Rat:=r.map λx=>x*b
theorem zq9 {h0 h:T Blk} {nx p r:Pa} {L:List Ob} {kr n M N:Nat} {cr:List AV} {qr:List Rat} {v:AV} {b:Rat} {K:Kw Prop} (H:Hp h0 h nx L) (hkr:L[kr]? = some (.arr r cr)) (hr:su cr qr) (hlr:qr.length=n) (hn:n<=1000) (hv:yR v b) (hb:jk M b) (hqr:∀ x∈qr,jk N x) (hMN:N*M<=9223372036854775807)
  (hK:∀ c h' nx',su c (yQ b qr)->Hp h0 h' nx' (L.set kr (.arr r c))->K (.tup []) h' nx'=.ok True):(CS Tryz.prog B).fn 111 p [rwV n r,v] h nx K=.ok True:=by
 refine zN zP yD 2000 λhf => ?_;obtain ⟨sb,wb,sb',wb',rfl,b1,b2⟩:=hv;have hkl:=(List.getElem?_eq_some_iff.1 hkr).1;have hE:(yQ b qr).length=qr.length:=by unfold yQ;rw [Zai]
 rw [jy.go,jy.t18,zA,jy.zy];refine H.box (l:=[sb,wb,sb',wb']) rfl λbb h1 nx1 H1 => ?_;rw [zA,jy.zx,yJ,zJ]
 refine jy.zfk (λm x7 h' nx'=>∃ (i:Nat) (c:List AV),x7=I (i:Int)/\m+i=n/\su c ((yQ b qr).take i++qr.drop i)/\Hp h0 h' nx' (.arr bb [sb,wb,sb',wb']::L.set kr (.arr r c))) (m:=n) (by omega) ⟨0,cr,rfl,rfl,by rw [Zdm,Zbo,Zdg];exact hr,by
  have:L.set kr (.arr r cr)=L:=by
   rw [List.getElem?_eq_getElem hkl] at hkr;rw [<- Option.some.inj hkr,List.set_getElem_self]
  rw [this];exact H1⟩ ?_
 rintro m z3 z4 z7 z8 z9 h3 nx3 R ⟨i,c,rfl,hm,hc,H3⟩ hR;rw [jy.t14,zA,jy.jb,jq,zA,zB,jy.v8];by_cases ci:i<n
 .have hy:qr[i]? = some qr[i]:=List.getElem?_eq_getElem (by omega);have hz:(yQ b qr)[i]? = some (qr[i]*b):=by unfold yQ;rw [List.getElem?_map,hy];rfl
  have mr:=Zau (l:=qr) (n:=i) (by omega);obtain ⟨cs2,e3,e4,hcj,fr⟩:=hc.get (pget hE hy);have hkr3:(Ob.arr bb [sb,wb,sb',wb']::L.set kr (.arr r c))[kr+1]? = some (.arr r c):=by
   show (L.set kr (.arr r c))[kr]? = _;rw [List.getElem?_set_self hkl]
  obtain ⟨so,wo,so',wo',e5,o1,o2⟩:=fr;obtain rfl:=AV.agg.inj e5;rw [Zac (by omega),zC,zG,zA,zJ,zA,jy.rD,oO (j:=i) rfl ci,H3.jg hkr3 e4 e3];refine H3.alloc λxb h4 nx4 H4 => ?_;refine H4.yx (l2:=[so,wo,so',wo']) (k:=0) rfl rfl rfl λh5 H5 => ?_;rw [zA,jy.rE,H5.zk (k:=0) (n:=4) rfl rfl];refine xP ⟨_,_,_,_,rfl,o1,o2⟩ _ _ _ _ ?_;rintro _ rfl _;rw [fV,zB,jy.v9];by_cases d:qr[i]=0
  .have d2:qr[i]*b=qr[i]:=by rw [d,Zbm]
   rw [Zac (fe.2 (Rat.num_eq_zero.2 d)),Zap,zD,zG,jy.pu,um (by omega)];rw [d2] at hz;exact hR (m-1) _ _ _ _ _ _ _ (by omega) ⟨i+1,c,by congr 1,by omega,by rw [<- zv7 hE hz hy];exact hc,H5.drop⟩
  .rw [Zab (λq=>d (Rat.num_eq_zero.1 (fe.1 q))),Zal,zC,jy.qg,H5.zk (k:=0) (n:=4) rfl rfl,H5.zk (k:=1) (n:=4) rfl rfl];refine mY ⟨_,_,_,_,rfl,o1,o2⟩ ⟨_,_,_,_,rfl,b1,b2⟩ (hqr _ mr) hb hMN _ _ _ _ ?_;rintro _ ⟨s6,w6,s6',w6',rfl,i1,i2⟩ _;rw [oO (j:=i) rfl ci];refine H5.tJ (k:=kr+2) (off:=i*4) hkr3 e4 rfl λh6 H6 => ?_;rw [jy.pu,um (by omega)];refine hR (m-1) _ _ _ _ _ _ _ (by omega) ⟨i+1,gQ c (i*4) [s6,w6,s6',w6'],by congr 1,by omega,?_,?_⟩
   .rw [<- zv6 hE hz];exact hc.put hcj i1 i2
   .exact (H6.cast (show ((Ob.arr xb [I 0,.za,I 0,.za]::Ob.arr bb [sb,wb,sb',wb']::L.set kr (.arr r c)).set 0 (Ob.arr xb [so,wo,so',wo'])).set (kr+2) (.arr r (gQ c (i*4) [s6,w6,s6',w6']))=Ob.arr xb [so,wo,so',wo']::Ob.arr bb [sb,wb,sb',wb']::L.set kr (.arr r (gQ c (i*4) [s6,w6,s6',w6'])) by
     show Ob.arr xb _::Ob.arr bb _::(L.set kr (.arr r c)).set kr _=_;rw [List.set_set])).drop
 .rw [Zab (by omega),zD,zV,yC];rw [jy.ret];rw [Zam (by omega),Zbs (by omega),Zbi] at hc;exact hK c _ _ hc H3.drop
end Go.Ev
namespace Go.Ev
open Go Go.Proofs
def Dn (t M:Nat) (q:Rat):Prop:=∃ z:Int,q*((t:Int):Rat)=(z:Rat)/\z.natAbs<=M
theorem wH {t:Int} (h:t≠0):(t:Rat)≠0:=λe=>by
 have:=congrArg Rat.num e;rw [Zel] at this;exact h this
theorem Dn.nm {t M:Nat} {q:Rat} (ht:1<=t) (htM:t<=M) (h:Dn t M q):jk M q:=by
 obtain ⟨z,e,hz⟩:=h;have h0:((t:Int):Rat)≠0:=wH (by omega);have eq:q=Rat.divInt z (t:Int):=by rw [Rat.divInt_eq_div];grind
 obtain ⟨d1,d2⟩:=qL (n:=z) (d:=(t:Int)) (by omega);have hg:0<(Int.gcd z (t:Int):Int):=by have:=Int.gcd_pos_of_ne_zero_right z (show (t:Int)≠0 by omega);omega
 have hg1:1<=Int.gcd z (t:Int):=by omega
 refine ⟨?_,?_⟩
 .rw [eq,d1,Int.natAbs_ediv_of_dvd (Zfz ..)];exact Zay (Zdq _ _) hz
 .have:((Rat.divInt z (t:Int)).den:Int).natAbs<=M:=by
   rw [d2,Int.natAbs_ediv_of_dvd (Zgt ..)];exact Zay (Zdq _ _) (by omega)
  rw [eq];exact this
theorem Dn.mono {t M N:Nat} {q:Rat} (h:Dn t M q) (hMN:M<=N):Dn t N q:=by
 obtain ⟨z,e,hz⟩:=h;exact ⟨z,e,Zay hz hMN⟩
theorem Dn.zero (t M:Nat):Dn t M 0:=⟨0,by grind,by simp⟩
theorem Dn.sub {t M N:Nat} {p q:Rat} (hp:Dn t M p) (hq:Dn t N q):Dn t (M+N) (p-q):=by
 obtain ⟨z,e,hz⟩:=hp;obtain ⟨w,f,hw⟩:=hq;refine ⟨z-w,by rw [Rat.intCast_sub];grind,?_⟩;have:=Int.natAbs_sub_le z w;omega
theorem Dn.mul {t s M N:Nat} {p q:Rat} (hp:Dn t M p) (hq:Dn s N q):Dn (t*s) (M*N) (p*q):=by
 obtain ⟨z,e,hz⟩:=hp;obtain ⟨w,f,hw⟩:=hq;refine ⟨z*w,?_,?_⟩
 .rw [Zcl,show ((t*s:Nat):Int)=(t:Int)*(s:Int) by simp,Zcl];grind
 .rw [Zcc];exact Zbk hz hw
theorem Dn.scale {t M:Nat} (s:Nat) {p:Rat} (hp:Dn t M p):Dn (t*s) (M*s) p:=by
 obtain ⟨z,e,hz⟩:=hp;refine ⟨z*(s:Int),?_,?_⟩
 .rw [Zcl,show ((t*s:Nat):Int)=(t:Int)*(s:Int) by simp,Zcl];grind
 .rw [Zcc,Zbq];exact Zax _ hz
def Sg (b:Rat):Prop:=b = -1\/b=0\/b=1
theorem Sg.dn {b:Rat} (h:Sg b) {t M:Nat} (hM:t<=M):Dn t M b:=by
 rcases h with rfl | rfl | rfl
 .exact ⟨-(t:Int),by rw [Zct];grind,by omega⟩
 .exact Dn.zero _ _
 .exact ⟨(t:Int),by grind,by omega⟩
theorem Sg.mul {b q:Rat} (h:Sg b) {t M:Nat} (hq:Dn t M q):Dn t M (b*q):=by
 obtain ⟨z,e,hz⟩:=hq;rcases h with rfl | rfl | rfl
 .exact ⟨-z,by rw [Zct];grind,by omega⟩
 .rw [Zbm];exact Dn.zero _ _
 .exact ⟨z,by grind,hz⟩
abbrev at' (q:List Rat) (j:Nat):Rat:=q.getD j 0
theorem gY {q:List Rat} {j:Nat} (h:j<q.length):q[j]? = some (at' q j):=by
 rw [at',Zaa,List.getElem?_eq_getElem h];rfl
theorem jH {q:List Rat} {j:Nat} (h:q.length<=j):at' q j=0:=by
 rw [at',Zaa,List.getElem?_eq_none h];rfl
theorem dM {q:List Rat} {x:Rat} (h:x∈q):∃ j,j<q.length/\x=at' q j:=by
 obtain ⟨j,hj⟩:=List.mem_iff_getElem?.1 h;have hl:=(List.getElem?_eq_some_iff.1 hj).1;rw [gY hl] at hj;exact ⟨j,hl,(Option.some.inj hj).symm⟩
theorem jA {b:Rat} {r o:List Rat} (h:r.length=o.length):(jD b r o).length=r.length:=by
 unfold jD;rw [Zdt];omega
theorem yY {b:Rat} {r o:List Rat} (h:r.length=o.length) (j:Nat):at' (jD b r o) j=at' r j-b*at' o j:=by
 by_cases hj:j<r.length
 .have h1:=gY (q:=jD b r o) (j:=j) (by rw [jA h];exact hj);unfold jD at h1;rw [List.getElem?_zipWith,gY hj,gY (q:=o) (by omega)] at h1;exact (Option.some.inj h1).symm
 .rw [jH (by rw [jA h];omega),jH (by omega),jH (by omega)];grind
theorem uA {b:Rat} {r:List Rat}:(yQ b r).length=r.length:=by unfold yQ;rw [Zai]
theorem gT {b:Rat} {r:List Rat} (j:Nat):at' (yQ b r) j=at' r j*b:=by
 by_cases hj:j<r.length
 .have h1:=gY (q:=yQ b r) (j:=j) (by rw [uA];exact hj);unfold yQ at h1;rw [List.getElem?_map,gY hj] at h1;exact (Option.some.inj h1).symm
 .rw [jH (by rw [uA];omega),jH (by omega),Zbm]
def dot:List Rat->List Rat->Rat
 | a::q,b::f=>a*b+dot q f
 | _,_=>0
theorem j3 (b:Rat):∀ (r o f:List Rat),r.length=o.length->dot (jD b r o) f=dot r f-b*dot o f
 | [],[],f,_=>by unfold jD;simp [dot];grind
 | x::r,y::o,[],_=>by unfold jD;simp [dot];grind
 | x::r,y::o,z::f,h=>by
  have ih:=j3 b r o f (by simpa using h);unfold jD at ih ⊢;rw [Zfu,dot,dot,dot,ih];grind
 | [],_::_,_,h=>by simp at h
 | _::_,[],_,h=>by simp at h
theorem uT (b:Rat):∀ (r f:List Rat),dot (yQ b r) f=b*dot r f
 | [],f=>by simp [yQ,dot]
 | x::r,[]=>by simp [yQ,dot]
 | x::r,z::f=>by
  have ih:=uT b r f;unfold yQ at ih ⊢;rw [Zea,dot,dot,ih];grind
def oC:List (List Rat×Nat)->List Rat->List Rat
 | [],r=>r
 |(q,p)::l,r=>oC l (jD (at' r p) r q)
theorem kU (q:List Rat) (p:Nat):∀ (l:List (List Rat×Nat)) (r:List Rat),oC (l++[(q,p)]) r=jD (at' (oC l r) p) (oC l r) q
 | [],r=>rfl
 |(q',p')::l,r=>by rw [Zbx,oC,kU q p l,oC]
structure St (n t M:Nat) (Q:List (List Rat)) (ps:List Nat):Prop where
 len:ps.length=Q.length
 row:∀ q∈Q,q.length=n
 den:∀ q∈Q,∀ j,Dn t M (at' q j)
 rng:∀ p∈ps,p<n
 one:∀ a b,a<Q.length->b<Q.length->at' (Q.getD a []) (ps.getD b 0)=if a=b then 1 else 0
 t1:1<=t
 tM:t<=M
theorem St.nil (n:Nat):St n 1 1 [] []:=⟨rfl,by simp,by simp,by simp,λa b h=>by simp at h,by omega,by omega⟩
theorem jZ {α:Type} {l:List α} {i:Nat} {d:α} (h:i<l.length):l[i]? = some (l.getD i d):=by
 rw [Zaa,List.getElem?_eq_getElem h];rfl
theorem zY {α:Type} {l:List α} {i:Nat} {d:α} (h:i<l.length):l.getD i d∈l:=Zad (jZ h)
abbrev aC (Q:List (List Rat)) (ps:List Nat):List (List Rat×Nat):=List.zip Q ps
theorem kZ {Q:List (List Rat)} {ps:List Nat} {k:Nat} (hl:ps.length=Q.length) (hk:k<Q.length):(aC Q ps).take (k+1)=(aC Q ps).take k++[(Q.getD k [],ps.getD k 0)]:=by
 have h1:Q[k]? = some (Q.getD k []):=jZ hk;have h2:ps[k]? = some (ps.getD k 0):=jZ (by omega);have h3:(aC Q ps)[k]? = some (Q.getD k [],ps.getD k 0):=List.getElem?_zip_eq_some.2 ⟨h1,h2⟩;rw [Zar,h3];rfl
structure Rk (n t M:Nat) (Q:List (List Rat)) (ps:List Nat) (r0:List Rat) (k:Nat) (r:List Rat):Prop where
 eq:r=oC ((aC Q ps).take k) r0
 len:r.length=n
 den:∀ j,Dn t (M+k*M) (at' r j)
 late:∀ b,k<=b->b<Q.length->at' r (ps.getD b 0)=at' r0 (ps.getD b 0)
 done:∀ b,b<k->b<Q.length->at' r (ps.getD b 0)=0
theorem Rk.zero {n t M:Nat} {Q:List (List Rat)} {ps:List Nat} {r0:List Rat} (hS:St n t M Q ps) (hl:r0.length=n) (hs:∀ j,Sg (at' r0 j)):Rk n t M Q ps r0 0 r0 :=
 ⟨rfl,hl,λj=>(hs j).dn (by have:=hS.tM;omega),λb _ _=>rfl,λb h=>by omega⟩
theorem Rk.next {n t M k:Nat} {Q:List (List Rat)} {ps:List Nat} {r0 r:List Rat} (hS:St n t M Q ps) (hs:∀ j,Sg (at' r0 j)) (h:Rk n t M Q ps r0 k r) (hk:k<Q.length):Rk n t M Q ps r0 (k+1) (jD (at' r (ps.getD k 0)) r (Q.getD k [])):=by
 have hq:=zY (d:=[]) hk;have hql:=hS.row _ hq;have hll:r.length=(Q.getD k []).length:=by rw [h.len,hql]
 have hb:Sg (at' r (ps.getD k 0)):=by rw [h.late k (Zaf _) hk];exact hs _
 refine ⟨by rw [kZ hS.len hk,kU,<- h.eq],by rw [jA hll];exact h.len,λj => ?_,λb h1 h2 => ?_,λb h1 h2 => ?_⟩
 .rw [yY hll];have:=(h.den j).sub (hb.mul (hS.den _ hq j));exact this.mono (by rw [Zbf];omega)
 .rw [yY hll,hS.one k b hk h2,if_neg (by omega),Zbg,h.late b (by omega) h2];grind
 .rw [yY hll,hS.one k b hk h2];by_cases e:b=k
  .subst e;rw [if_pos rfl,Rat.mul_one];grind
  .rw [if_neg (by omega),Zbg,h.done b (by omega) h2];grind
def uV (Q:List (List Rat)) (p:Nat) (r:List Rat):List (List Rat):=Q.map λo=>jD (at' o p) o r
theorem zjl {t N:Nat} {v:Rat} (ht:1<=t) (hv:v≠0) (h:Dn t N v):∃ s:Nat,1<=s/\s<=N/\Dn s t v⁻¹/\∀ {x:Rat} {R:Nat},Dn t R x->Dn s R (x*v⁻¹):=by
 obtain ⟨z,e,hz⟩:=h;have ht0:((t:Int):Rat)≠0:=wH (by omega);have hz0:z≠0:=λq=>by subst q;rw [show ((0:Int):Rat)=0 from rfl] at e;grind
 have hzr:(z:Rat)≠0:=wH hz0;refine ⟨z.natAbs,by omega,hz,?_,λ{x R} hx => ?_⟩
 .by_cases c:0<z
  .refine ⟨(t:Int),?_,by omega⟩;rw [show ((z.natAbs:Nat):Int)=z by omega];grind
  .refine ⟨-(t:Int),?_,by omega⟩;rw [show ((z.natAbs:Nat):Int) = -z by omega,Zct,Zct];grind
 .obtain ⟨w,f,hw⟩:=hx;by_cases c:0<z
  .refine ⟨w,?_,hw⟩;rw [show ((z.natAbs:Nat):Int)=z by omega];grind
  .refine ⟨-w,?_,by omega⟩;rw [show ((z.natAbs:Nat):Int) = -z by omega,Zct,Zct];grind
structure Nw (n t M N s:Nat) (Q:List (List Rat)) (ps:List Nat) (p:Nat) (r:List Rat):Prop where
 len:r.length=n
 den:∀ j,Dn s N (at' r j)
 one:at' r p=1
 out:∀ b,b<Q.length->at' r (ps.getD b 0)=0
 p1:p<n
 s1:1<=s
 sN:s<=N
theorem Nw.less {n t M N s p:Nat} {Q:List (List Rat)} {ps:List Nat} {r:List Rat} (hS:St n t M Q ps) (h:Nw n t M N s Q ps p r) {o:List Rat} (ho:o∈Q) :
  (∀ j,Dn (t*s) (M*N) (at' o p*at' r j))/\(∀ j,Dn (t*s) (M*s+M*N) (at' (jD (at' o p) o r) j))/\(jD (at' o p) o r).length=n:=by
 have hl:o.length=r.length:=by rw [hS.row o ho,h.len]
 refine ⟨λj=>(hS.den o ho p).mul (h.den j),λj => ?_,by rw [jA hl];exact hS.row o ho⟩;rw [yY hl];exact ((hS.den o ho j).scale s).sub ((hS.den o ho p).mul (h.den j))
theorem St.next {n t M N s p:Nat} {Q:List (List Rat)} {ps:List Nat} {r:List Rat} (hS:St n t M Q ps) (h:Nw n t M N s Q ps p r):St n (t*s) (M*N+M*N) (uV Q p r++[r]) (ps++[p]):=by
 have hnl:(uV Q p r).length=Q.length:=by unfold uV;rw [Zai]
 have hM1:1<=M:=Zay hS.t1 hS.tM;have mM:M*s<=M*N:=Zds _ h.sN;refine ⟨by rw [Zae,Zae,hnl,hS.len];rfl,λq hq => ?_,λq hq j => ?_,λx hx => ?_,λa b ha hb => ?_,Zbk hS.t1 h.s1,?_⟩
 .rcases List.mem_append.1 hq with hq | hq
  .obtain ⟨o,ho,rfl⟩:=List.mem_map.1 hq;exact (h.less hS ho).2.2
  .obtain rfl:=List.mem_singleton.1 hq;exact h.len
 .rcases List.mem_append.1 hq with hq | hq
  .obtain ⟨o,ho,rfl⟩:=List.mem_map.1 hq;exact ((h.less hS ho).2.1 j).mono (by omega)
  .obtain rfl:=List.mem_singleton.1 hq;have:=(h.den j).scale t;rw [Zcm s t] at this;have e:=Zds N hS.tM;rw [Zcm N M] at e;exact this.mono (by omega)
 .rcases List.mem_append.1 hx with hx | hx
  .exact hS.rng x hx
  .obtain rfl:=List.mem_singleton.1 hx;exact h.p1
 .rw [Zae,hnl,Zbh] at ha hb;have eb:(ps++[p]).getD b 0=if b<Q.length then ps.getD b 0 else p:=by
   by_cases c:b<Q.length
   .rw [if_pos c,Zaa,List.getElem?_append_left (by rw [hS.len];exact c),<- Zaa]
   .rw [if_neg c,Zaa,List.getElem?_append_right (by rw [hS.len];omega),hS.len,show b-Q.length=0 by omega];rfl
  have ea:(uV Q p r++[r]).getD a []=if a<Q.length then jD (at' (Q.getD a []) p) (Q.getD a []) r else r:=by
   by_cases c:a<Q.length
   .rw [if_pos c,Zaa,List.getElem?_append_left (by rw [hnl];exact c),uV,List.getElem?_map,jZ (d:=[]) c];rfl
   .rw [if_neg c,Zaa,List.getElem?_append_right (by rw [hnl];omega),hnl,show a-Q.length=0 by omega];rfl
  rw [ea,eb];by_cases c1:a<Q.length
  .have hl:(Q.getD a []).length=r.length:=by rw [hS.row _ (zY c1),h.len]
   rw [if_pos c1,yY hl];by_cases c2:b<Q.length
   .rw [if_pos c2,h.out b c2,hS.one a b c1 c2,Zbg];grind
   .rw [if_neg c2,h.one,if_neg (by omega)];grind
  .rw [if_neg c1];by_cases c2:b<Q.length
   .rw [if_pos c2,h.out b c2,if_neg (by omega)]
   .rw [if_neg c2,h.one,if_pos (by omega)]
 .have h1:=Zbk hS.tM h.sN;omega
abbrev SL (n:Nat) (o4 o5:Option Pa) (rs:List Pa) (cs:List (List AV)) (ps:List Nat) (T:List Ob):List Ob :=
 .gro o4 1 rs.length (rs.map (rwV n))::.gro o5 1 ps.length (ps.map λp=>I ((p:Nat):Int))::(List.zipWith Ob.arr rs cs++T)
structure SM (rs:List Pa) (cs:List (List AV)) (Q:List (List Rat)):Prop where
 lr:rs.length=Q.length
 lc:cs.length=Q.length
 row:∀ a,a<Q.length->su (cs.getD a []) (Q.getD a [])
theorem xZ {rs:List Pa} {cs:List (List AV)} {Q:List (List Rat)} (S:SM rs cs Q):(List.zipWith Ob.arr rs cs).length=Q.length:=by
 rw [Zdt,S.lr,S.lc,Nat.min_self]
theorem SM.ob {rs:List Pa} {cs:List (List AV)} {Q:List (List Rat)} (S:SM rs cs Q) {n a:Nat} {o4 o5:Option Pa} {ps:List Nat} {T:List Ob} (ha:a<Q.length) (X:List Ob) :
  ∃ r,rs[a]? = some r/\(X++SL n o4 o5 rs cs ps T)[X.length+(a+2)]? = some (.arr r (cs.getD a [])):=by
 have hr:rs[a]? = some (rs[a]'(by rw [S.lr];exact ha)):=List.getElem?_eq_getElem _;have hc:cs[a]? = some (cs.getD a []):=jZ (by rw [S.lc];exact ha);refine ⟨_,hr,?_⟩;rw [List.getElem?_append_right (by omega),Zcp];show (List.zipWith Ob.arr rs cs++T)[a]? = _;rw [List.getElem?_append_left (by rw [xZ S];exact ha),List.getElem?_zipWith,hr,hc]
theorem zky:∀ {rs:List Pa} {cs:List (List AV)} {a:Nat} {r:Pa} {c:List AV},rs[a]? = some r->(List.zipWith Ob.arr rs cs).set a (.arr r c)=List.zipWith Ob.arr rs (cs.set a c)
 | [],_,_,_,_,h=>by simp at h
 | _::_,[],_,_,_,_=>by simp
 | x::rs,y::cs,0,r,c,h=>by
  obtain rfl:=Option.some.inj h
  rfl
 | x::rs,y::cs,a+1,r,c,h=>by
  have:=zky (rs:=rs) (cs:=cs) (a:=a) (r:=r) (c:=c) (by simpa using h);simp [this]
theorem SM.put {rs:List Pa} {cs:List (List AV)} {Q:List (List Rat)} (S:SM rs cs Q) {n a:Nat} {o4 o5:Option Pa} {ps:List Nat} {T:List Ob} {r:Pa} {c:List AV} {q:List Rat} (ha:a<Q.length) (hr:rs[a]? = some r) (hc:su c q) (X:List Ob) :
  SM rs (cs.set a c) (Q.set a q)/\(X++SL n o4 o5 rs cs ps T).set (X.length+(a+2)) (.arr r c)=X++SL n o4 o5 rs (cs.set a c) ps T:=by
 refine ⟨⟨by rw [Zan];exact S.lr,by rw [Zan,Zan];exact S.lc,λb hb => ?_⟩,?_⟩
 .rw [Zan] at hb;by_cases e:b=a
  .subst e;rw [Zaa,Zaa,List.getElem?_set_self (by rw [S.lc];exact hb),List.getElem?_set_self hb];exact hc
  .rw [Zaa,Zaa,List.getElem?_set_ne (by omega),List.getElem?_set_ne (by omega),<- Zaa,<- Zaa];exact S.row b hb
 .rw [Zes _ _ (by omega),Zcp];show X++(Ob.gro o4 1 rs.length (rs.map (rwV n))::Ob.gro o5 1 ps.length (ps.map λp=>I ((p:Nat):Int))::(List.zipWith Ob.arr rs cs++T).set a (.arr r c))=_;rw [List.set_append_left _ _ (by rw [xZ S];exact ha),zky hr]
theorem SM.add {rs:List Pa} {cs:List (List AV)} {Q:List (List Rat)} (S:SM rs cs Q) {r:Pa} {c:List AV} {q:List Rat} (hc:su c q):SM (rs++[r]) (cs++[c]) (Q++[q]):=by
 refine ⟨by simp [S.lr],by simp [S.lc],λb hb => ?_⟩;rw [Zae,Zbh] at hb;by_cases e:b<Q.length
 .rw [Zaa,Zaa,List.getElem?_append_left (by rw [S.lc];exact e),List.getElem?_append_left e,<- Zaa,<- Zaa];exact S.row b e
 .obtain rfl:b=Q.length:=by omega
  rw [Zaa,Zaa,List.getElem?_append_right (by rw [S.lc];exact Zaf _),List.getElem?_append_right (Zaf _),S.lc,Zcd];exact hc
theorem zkz {rs:List Pa} {cs:List (List AV)} {r:Pa} {c:List AV} (h:rs.length=cs.length):List.zipWith Ob.arr (rs++[r]) (cs++[c])=List.zipWith Ob.arr rs cs++[.arr r c]:=by
 rw [Zgf h];rfl
theorem zra {a g4 g5:Ob} {Z T:List Ob}:(a::g4::g5::(Z++T)).Perm (g4::g5::((Z++[a])++T)):=by
 refine (List.Perm.swap ..).trans (List.Perm.cons _ ((List.Perm.swap ..).trans (List.Perm.cons _ ?_)));rw [Zbu];exact List.perm_middle.symm
theorem zyh {α:Type} {l e:List α} {c:Nat} {q:α} (hle:e.length=l.length) (hq:e[c]? = some q):(e.take c++l.drop c).set c q=e.take (c+1)++l.drop (c+1):=by
 have hc:=(List.getElem?_eq_some_iff.1 hq).1;rw [Zbj (show c<l.length by omega),dT (by rw [Zah];omega),Zar,hq];simp
theorem qbi {α:Type} {l e:List α} {c:Nat} {q:α} (hle:e.length=l.length) (hq:l[c]? = some q):(e.take c++l.drop c)[c]? = some q:=by
 have hc:=(List.getElem?_eq_some_iff.1 hq).1;rw [List.getElem?_append_right (by rw [Zah];omega),Zah,List.getElem?_drop,show c+(c-min c e.length)=c by omega];exact hq
theorem mX:∀ (l:List Int) (q:List Rat) (j:Nat),(at' q j=0\/at' q j=1)->at' (l.foldl (λq c=>q.set c.toNat 1) q) j=0\/at' (l.foldl (λq c=>q.set c.toNat 1) q) j=1
 | [],_,_,h=>h
 | c::l,q,j,h=>by
  rw [Zdz];refine mX l _ j ?_;by_cases e:c.toNat=j
  .by_cases hj:j<q.length
   .right;rw [at',Zaa,e,List.getElem?_set_self hj];rfl
   .left;exact jH (by rw [Zan];omega)
  .rw [at',Zaa,List.getElem?_set_ne e,<- Zaa];exact h
theorem qJ (n:Nat) (l:List Int) (j:Nat):at' (rQ n l) j=0\/at' (rQ n l) j=1:=by
 refine mX l _ j (.inl ?_);by_cases hj:j<n
 .rw [at',Zaa,List.getElem?_replicate,if_pos hj];rfl
 .exact jH (by rw [Zba];omega)
def aN (n:Nat) (lines:List (List Int)) (i:Nat):List Rat:=jD 1 (rQ n (lines.getD i [])) (rQ n (lines.getD 0 []))
theorem vV (n:Nat) (lines:List (List Int)) (i:Nat):(aN n lines i).length=n:=by unfold aN;rw [jA (by rw [yH,yH]),yH]
theorem mG (n:Nat) (lines:List (List Int)) (i j:Nat):Sg (at' (aN n lines i) j):=by
 unfold aN;rw [yY (by rw [yH,yH])];rcases qJ n (lines.getD i []) j with e | e <;> rcases qJ n (lines.getD 0 []) j with f | f <;> rw [e,f]
 .right;left;grind
 .left;grind
 .right;right;grind
 .right;left;grind
def Mgf (n:Nat) (lines:List (List Int)) (f:List Rat):Prop:=f.length=n/\∀ l∈lines,dot (rQ n l) f=dot (rQ n (lines.getD 0 [])) f
theorem zrb {n:Nat} {lines:List (List Int)} {f:List Rat} (h:Mgf n lines f) {i:Nat} (hi:i<lines.length):dot (aN n lines i) f=0:=by
 unfold aN;rw [j3 _ _ _ _ (by rw [yH,yH]),h.2 _ (zY hi)];grind
theorem zb9 {n:Nat} {f:List Rat}:∀ (l:List (List Rat×Nat)) (r:List Rat),(∀ x∈l,x.1.length=n/\dot x.1 f=0)->r.length=n->dot (oC l r) f=dot r f
 | [],r,_,_=>rfl
 |(q,p)::l,r,h,hr=>by
  obtain ⟨h1,h2⟩:=h (q,p) (Zaj ..);have hl:r.length=q.length:=by rw [hr];exact h1.symm
  rw [oC,zb9 l _ (λx hx=>h x (Zao _ hx)) (by rw [jA hl];exact hr),j3 _ _ _ _ hl];have h2:dot q f=0:=h2;rw [h2];grind
end Go.Ev
