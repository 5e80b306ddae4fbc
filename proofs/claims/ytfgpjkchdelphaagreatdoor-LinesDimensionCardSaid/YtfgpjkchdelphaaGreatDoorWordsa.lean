import Derived.Test.YtfgpjkchdelphaaGreatDoorEvC
import Derived.Test.YtfgpjkchdelphaaGreatDoorLaws
import Derived.Test.YtfgpjkchdelphaaGreatDoorIrT
import Derived.Test.YtfgpjkchdelphaaGreatDoorEvD
import Derived.KernelRfl
import Derived.Test.YtfgpjkchdelphaaGreatDoorCodea
set_option linter.unusedSimpArgs false
set_option linter.unusedVariables false
noncomputable section
namespace Go.Ev
open Go Go.Proofs Go.RowKit
def m7:List AV->Option (List (List UInt8))
 | []=>some []
 | .str s::l=>match m7 l with
  | some xs=>some (s::xs)
  | none=>none
 | _=>none
def zt0 (l:List AV) (sep:List UInt8):Option AV:=match m7 l with
 | some xs=>bif Nat.ble (Lib.join xs sep).length 100000 then some (.str (Lib.join xs sep)) else none
 | none=>none
def zt1 (cap:Option Nat) (ln:Nat):Bool:=match cap with
 | some k=>Nat.ble ln k
 | none=>true
def zov (v:AV) (sep:List UInt8) (h:T Blk):Option AV:=match v with
 | .sl id off ln cap esz=>match T.get .no id h with
  | .cells _ m t=>bif Nat.beq esz 1&&Nat.ble (off+ln) m&&Nat.ble ln 100000&&zt1 cap ln then zt0 (yS t off ln) sep else none
  | _=>none
 | .zb=>some (.str [])
 | _=>none
def zfa (f:Nat) (args:List AV) (h:T Blk):Option (AV×T Blk):=bif Nat.beq f 281 then (match args with
 | [v,.str sep]=>match zov v sep h with
  | some v=>some (v,h)
  | none=>none
 | _=>none) else none
theorem zfc:∀ {l:List AV} {xs:List (List UInt8)},m7 l=some xs->l=xs.map .str
 | [],xs,h=>by simp [m7] at h;subst h;rfl
 | x::l,xs,h=>by
  cases x <;> first | (simp [m7] at h;done) | skip
  simp only [m7] at h;cases hl:m7 l with
  | none=>simp [hl] at h
  | some ys=>simp [hl] at h;subst h;simp [zfc hl]
theorem HR.below {P:Program} {B:Nat} {E:Env} {h:T Blk} {nx:Pa} {w w':World} (H:HR P B E h nx w) (hb:Below w.heap.size w w'):HR P B E h nx w'/\Ex E E w w':=by
 refine ⟨{
  blk:=λid hid=>by
   obtain ⟨b,n,o,q1,q2,q3⟩:=H.blk id hid;exact ⟨b,n,o,q1,by rw [hb.block b (H.lt _ _ _ q1).2];exact q2,q3⟩
  inj:=H.inj
  fresh:=H.fresh
  lt:=λid b n hid=>⟨(H.lt id b n hid).1,Zcv (H.lt id b n hid).2 hb.size⟩
  base:=Zas H.base hb.size
  frz:=λb i v hf=>by
   obtain ⟨⟨c,ty,fr,q1,q2⟩,q3⟩:=H.frz b i v hf;exact ⟨⟨c,ty,fr,by rw [hb.block b (Array.getElem?_eq_some_iff.1 q1).1];exact q1,q2⟩,q3⟩ },?_⟩
 exact ⟨.refl _,hb.os,hb.tape,hb.output,hb.size,λb hlt _=>hb.block b hlt,λid b n hid=>.inr ⟨id,n,hid⟩,λ_ _ v h=>.inr (.inl ⟨v,h⟩),λb L hL=>⟨L,by rw [hb.block b (Array.getElem?_eq_some_iff.1 hL).1];exact hL,.refl _⟩⟩
theorem zae {B:Nat}:JOk Tryz.prog B zfa:=by
 intro E h nx w f args vs v h2 H hv hj;unfold zfa at hj;cases hf:Nat.beq f 281 with
 | false=>simp [hf] at hj
 | true =>
  obtain rfl:=yM hf;rw [hf,cond_true] at hj;split at hj
  case h_2=>cases hj
  rename_i _ x sep;cases hjj:zov x sep h with
  | none=>simp [hjj] at hj
  | some v0 =>
  simp only [hjj,Option.some.injEq,Prod.mk.injEq] at hj;obtain ⟨rfl,rfl⟩:=hj;have hj:=hjj
  clear hjj
  refine ⟨(),trivial,trivial,trivial,λn=>.inl ⟨_,Tryz.func281,by kernel_rfl,by kernel_rfl,callsIn_wide.2 ?_⟩⟩;obtain ⟨l⟩:=vs;simp only [VRL] at hv;obtain ⟨u,_,rfl,hu,s,_,rfl,hs,rfl⟩:=hv;simp only [VR] at hs;subst hs
  have fin:∀ (xs:List (List UInt8)) (w':World) (e:Ending),v0=.str (Lib.join xs sep)->e=.returned (.string ⟨(Lib.join ((xs.map λs=>(⟨s.toArray⟩:ByteArray)).map (·.data.toList)) (⟨sep.toArray⟩:ByteArray).data.toList).toArray⟩)->Below w.heap.size w w' ->
    ∃ u E',e=.returned u/\VR E' v0 u/\HR Tryz.prog B E' h nx w'/\Ex E E' w w':=by
   intro xs w' e hve he hb;obtain ⟨h1,h2⟩:=H.below hb;refine ⟨_,E,he,?_,h1,h2⟩;rw [hve];simp only [VR,List.map_map]
   congr 2
   have:(xs.map ((λx=>x.data.toList) ∘ λs=>(⟨s.toArray⟩:ByteArray)))=xs:=by
    conv=>rhs;rw [<- List.map_id xs]
    exact Zfq λ_ _=>rfl
   rw [this]
  unfold zov at hj;split at hj
  .rename_i id off ln cap esz;split at hj
   .rename_i op m t hb;cases hq:(Nat.beq esz 1&&Nat.ble (off+ln) m&&Nat.ble ln 100000&&zt1 cap ln) with
    | false=>simp [hq] at hj
    | true =>
     rw [hq,cond_true] at hj;simp only [Zah] at hq;obtain ⟨⟨⟨q1,q2⟩,q3⟩,q4⟩:=hq;obtain rfl:=yM q1;have q2:=yB q2;have q3:=yB q3;unfold zt0 at hj;cases hx:m7 (yS t off ln) with
     | none=>simp [hx] at hj
     | some xs =>
      simp only [hx] at hj;cases hl:Nat.ble (Lib.join xs sep).length 100000 with
      | false=>simp [hl] at hj
      | true =>
       rw [hl,cond_true] at hj;have hl:=yB hl;obtain rfl:=(Option.some.inj hj).symm;have hxs:=zfc hx;have hln:xs.length=ln:=by
        have:=congrArg List.length hxs;simpa using this.symm
       obtain ⟨b,n,c,hE,rfl,hcap⟩:=hu.rZ;obtain ⟨b',n',o,h1,h2,h3⟩:=H.blk id (by rw [hb];intro e;cases e);rw [hE] at h1;cases h1;rw [hb] at h3;obtain ⟨cs,ty,fr,rfl,_,_,_,_,hc⟩:=h3
       have hjn:=Tryz.strings_Join b off c (xs.map λs=>(⟨s.toArray⟩:ByteArray)) ⟨sep.toArray⟩ w (by
        intro j x hx2;rw [List.getElem?_map] at hx2;cases hxj:xs[j]? with
        | none=>simp [hxj] at hx2
        | some s =>
         simp [hxj] at hx2;subst hx2;have hjl:j<ln:=by rw [<- hln];exact (List.getElem?_eq_some_iff.1 hxj).1
         obtain ⟨_,v',g1,g2⟩:=hc (off+j) (by omega);have he:T.get .u (.of (off+j)) t=.str s:=by
          have e1:=yG t off ln j hjl;rw [hxs] at e1;simp [hxj] at e1;exact e1.symm
         rw [he] at g2;simp only [VR] at g2;subst g2
         simp [World.cell?,h2,g1]) (H.lt _ _ _ hE).2 (by simp;omega) (by
          simp only [Zai,hln];cases cap with
          | none=>exact hcap.1
          | some k =>
           have h4:ln<=k:=yB q4;have h5:c=k:=hcap;omega) (by
          have:((xs.map λs=>(⟨s.toArray⟩:ByteArray)).map (·.data.toList))=xs:=by
           rw [List.map_map]
           conv=>rhs;rw [<- List.map_id xs]
           exact Zfq λ_ _=>rfl
          rw [this];show (Lib.join xs sep).length<=_;omega)
       rw [Zai,hln] at hjn;exact hjn.mono λe w' ⟨he,hb⟩=>fin xs w' e rfl he hb
   .cases hj
  .obtain rfl:=(Option.some.inj hj).symm;simp only [VR] at hu;subst hu;exact (Tryz.strings_Join_none none 0 _ w).mono λe w' ⟨he,hb⟩=>fin [] w' e rfl he (hb ▸ Below.refl _ _)
  .cases hj
end Go.Ev
namespace Go.Ev
open Go Go.Proofs
def zhb (J:Nat->List AV->T Blk->Option (AV×T Blk)) (f:Nat) (args:List AV) (res:AV):Bool:=match (vF (λ_=>false) J tbl 1000 60).fn f (.of f) args .e .z endK with
 | .ok v=>tL v res
 | .no _=>false
theorem zfb {J:Nat->List AV->T Blk->Option (AV×T Blk)} {f:Nat} {args:List AV} {res:AV} {B:Nat} (hJ:∀ B,JOk Tryz.prog B J) (ha:nns args=true) (h:zhb J f args res=true):Pure Tryz.prog B f args (· = res):=by
 unfold zhb at h;cases hq:(vF (λ_=>false) J tbl 1000 60).fn f (.of f) args .e .z endK with
 | no n=>rw [hq] at h;cases h
 | ok v =>
  rw [hq] at h;have e:=xL h;subst e;exact jA zO mixed hJ ha hq
end Go.Ev
namespace Go.Ev
def bv (b:Nat):List Nat->Nat
 | []=>0
 | x::l=>x+b*bv b l
theorem dH (b:Nat):∀ l m:List Nat,bv b (l++m)=bv b l+b ^ l.length*bv b m
 | [],m=>by simp [bv]
 | x::l,m=>by
  rw [Zbp,bv,dH b l m,bv,Zba,Zcx,Zdz,Zcj,Zbo (b ^ l.length) b,Zdv]
theorem bN (b:Nat) (l:List Nat) (x:Nat):bv b (l++[x])=bv b l+b ^ l.length*x:=by
 rw [dH];simp [bv]
def Dg (b:Nat) (l:List Nat):Prop:=∀ x∈l,x<b
theorem zbv {b:Nat} (hb:0<b):∀ {l:List Nat},Dg b l->bv b l<b ^ l.length
 | [],_=>by simp [bv]
 | x::l,h=>by
  have h1:=zbv hb (l:=l) λy hy=>h y (by simp [hy]);have h2:=h x (by simp);rw [bv,Zba,Zcx,Zbo (b ^ l.length) b];have h3:b*(bv b l+1)<=b*b ^ l.length:=Zdn b h1;rw [Zdz,Zck] at h3;omega
def Nm (l:List Nat):Prop:=l.getLast? ≠ some 0
def dg (b:Nat) (z:Nat):List Nat:=if h:z=0\/b<2 then [] else z%b::dg b (z / b)
termination_by z
decreasing_by
 have h1:z≠0:=λq=>h (.inl q);have h2:¬ b<2:=λq=>h (.inr q);exact Nat.div_lt_self (Zeu h1) (by omega)
theorem gJ (b:Nat):dg b 0=[]:=by rw [dg];simp
theorem kE {b z:Nat} (hb:2<=b) (hz:z≠0):dg b z=z%b::dg b (z / b):=by
 rw [dg,dif_neg (by omega)]
theorem xO {b:Nat} (hb:2<=b) (z:Nat):bv b (dg b z)=z/\Dg b (dg b z)/\Nm (dg b z):=by
 induction z using Nat.strongRecOn with
 | ind z ih =>
  by_cases hz:z=0
  .subst hz;rw [gJ];exact ⟨rfl,λx hx=>by simp at hx,by simp [Nm]⟩
  .obtain ⟨h1,h2,h3⟩:=ih (z / b) (Nat.div_lt_self (Zeu hz) (by omega));rw [kE hb hz];refine ⟨?_,?_,?_⟩
   .rw [bv,h1];exact Nat.mod_add_div z b
   .intro x hx;rcases List.mem_cons.1 hx with rfl | hx
    .exact Zdp _ (by omega)
    .exact h2 x hx
   .unfold Nm at *
    by_cases hd:z / b=0
    .rw [hd,gJ];have:z<b:=by
      rcases Nat.div_eq_zero_iff.1 hd with q | q
      .omega
      .exact q
     simp [Zca this];exact hz
    .rw [kE hb hd] at h3 ⊢;rw [List.getLast?_cons_cons];exact h3
theorem zbw {b:Nat} (hb:2<=b):∀ {l:List Nat},Dg b l->Nm l->l=dg b (bv b l)
 | [],_,_=>by rw [bv,gJ]
 | x::l,h,hn=>by
  have hx:=h x (by simp);have hl:Dg b l:=λy hy=>h y (by simp [hy]);have hnl:Nm l:=by
   unfold Nm at *
   cases l with
   | nil=>simp
   | cons y l=>rw [List.getLast?_cons_cons] at hn;exact hn
  have ih:=zbw hb hl hnl;have hz:bv b (x::l)≠0:=by
   rw [bv];intro q;have hx0:x=0:=by omega
   have hv:bv b l=0:=by
    have:b*bv b l=0:=by omega
    rcases Nat.mul_eq_zero.1 this with q | q
    .omega
    .exact q
   rw [hv,gJ] at ih;subst ih;subst hx0;simp [Nm] at hn
  rw [kE hb hz,bv];have e1:(x+b*bv b l)%b=x:=by rw [Nat.add_mul_mod_self_left,Zca hx]
  have e2:(x+b*bv b l) / b=bv b l:=by rw [Nat.add_mul_div_left _ _ (by omega),Zek hx,Zbd]
  rw [e1,e2,<- ih]
theorem xK {b:Nat} {l:List Nat} {i x:Nat} (h:l[i]? = some x):bv b (l.take (i+1))=bv b (l.take i)+b ^ i*x:=by
 have hi:i<l.length:=(List.getElem?_eq_some_iff.1 h).1;rw [Zau,h];show bv b (l.take i++[x])=_;rw [bN,Zal,Zbn (by omega)]
theorem zv0 {U V q r:Nat} (h:U=q*V+r) (hr:r<V):U / V=q/\U%V=r:=by
 have hv:0<V:=by omega
 subst h;refine ⟨?_,?_⟩
 .rw [Zdb,Nat.add_mul_div_right _ _ hv,Zek hr,Zbd]
 .rw [Zdb,Nat.add_mul_mod_self_right,Zca hr]
end Go.Ev
namespace Go.Ev
open Go Go.Proofs
variable {B:Nat}
set_option maxRecDepth 100000
theorem yD {B:Nat}:mK Tryz.prog B Prop:=oO mixed
abbrev U (m:Nat):AV:=.int .u64 (m:Int)
def encW (l:List Nat):AV:=.lst 1 l.length (l.map U)
theorem zow {z:Int} (h:0<=z/\z<18446744073709551616):IntKind.wrap .u64 z=z:=by
 have e:IntKind.wrap .u64 z=z%18446744073709551616:=by
  unfold IntKind.wrap;first | rfl | simp [IntKind.bits,IntKind.signed] | skip
 rw [e];omega
theorem zox {m:Nat}:IntKind.wrap .u64 (m:Int)=((m%18446744073709551616:Nat):Int):=by
 have e:IntKind.wrap .u64 (m:Int)=(m:Int)%18446744073709551616:=by
  unfold IntKind.wrap;first | rfl | simp [IntKind.bits,IntKind.signed] | skip
 rw [e];omega
theorem zoy {z:Int}:IntKind.wrap .u64 z=z%18446744073709551616:=by
 unfold IntKind.wrap;first | rfl | simp [IntKind.bits,IntKind.signed]
theorem uAdd {a b:Nat} {K:AV->OP}:za .add .int (U a) (U b) K=K (U ((a+b)%18446744073709551616)):=by
 rw [ztb,show (a:Int)+(b:Int)=((a+b:Nat):Int) by omega,zox]
theorem uMul {a b:Nat} {K:AV->OP}:za .mul .int (U a) (U b) K=K (U ((a*b)%18446744073709551616)):=by
 rw [zy9,show (a:Int)*(b:Int)=((a*b:Nat):Int) by simp,zox]
theorem uShr {m n:Nat} {k:IntKind} {K:AV->OP} (hn:n<=64):za .shr .int (U m) (.int k (n:Int)) K=K (U (m / 2 ^ n)):=by
 have e:za .shr .int (U m) (.int k (n:Int)) K=(bif ilt (n:Int) 0 then Out.no 5 else qb ((m:Int).fdiv (2 ^ (min (n:Int).toNat IntKind.u64.bits))) λz=>K (.int .u64 z)):=by cases k <;> rfl
 have h0:ilt (n:Int) 0=false:=rfl;rw [e,h0,cond_false,jI];have hb:IntKind.u64.bits=64:=rfl;rw [hb,Zez,Zbn hn,Int.fdiv_eq_ediv_of_nonneg _ (Int.pow_nonneg (by omega))]
 congr 2
theorem zah {m:Nat} {k:IntKind} {K:AV->OP}:za .shr .int (U m) (.int k 32) K=K (U (m / 4294967296)):=uShr (n:=32) (by omega)
theorem uAnd {m:Nat} {K:AV->OP} (hm:m<18446744073709551616):za .and .int (U m) (.int .u64 4294967295) K=K (U (m%4294967296)):=by
 have e:za .and .int (U m) (U 4294967295) K=qb (IntKind.u64.wrap ((BitVec.ofInt 64 (m:Int) &&& BitVec.ofInt 64 ((4294967295:Nat):Int)).toNat:Int)) λz=>K (.int .u64 z):=rfl;have h1:(BitVec.ofInt 64 (m:Int) &&& BitVec.ofInt 64 ((4294967295:Nat):Int)).toNat=m%4294967296:=by
  rw [BitVec.ofInt_natCast,BitVec.ofInt_natCast,BitVec.toNat_and,BitVec.toNat_ofNat,BitVec.toNat_ofNat,Zca hm];exact Nat.and_two_pow_sub_one_eq_mod m 32
 have e2:za .and .int (U m) (.int .u64 4294967295) K=za .and .int (U m) (U 4294967295) K:=rfl;rw [e2,e,jI,h1,zow (by omega)]
theorem uLeq {a b:Nat} {K:AV->OP}:za .leq .int (U a) (U b) K=K (.bool (decide (a<=b))):=by rw [fO];simp only [Int.ofNat_le]
theorem uGeq {a b:Nat} {K:AV->OP}:za .geq .int (U a) (U b) K=K (.bool (decide (b<=a))):=by rw [pz];simp only [Int.ofNat_le]
theorem uEql {a b:Nat} {K:AV->OP}:za .eql .int (U a) (U b) K=K (.bool (decide (a=b))):=by rw [vw];simp only [Int.natCast_inj]
theorem zzj {a:Nat} {K:AV->OP}:za .eql .int (U a) (.int .u64 0) K=K (.bool (decide (a=0))):=uEql (b:=0)
theorem zoz {k:IntKind} {z:Int} {m:Nat} {K:AV->OP} (h:z=(m:Int)) (hm:m<18446744073709551616):kJ .u64 (.int k z) K=K (U m):=by
 show qb (uP .u64 z) (λz=>K (.int .u64 z))=_;rw [jI,uU,zow (by omega),h]
theorem zo0 {k:IntKind} {z:Int} {K:AV->OP} (h : -9223372036854775808<=z/\z<0):kJ .u64 (.int k z) K=K (U (z+18446744073709551616).toNat):=by
 show qb (uP .u64 z) (λz=>K (.int .u64 z))=_;rw [jI,uU,zoy,show z%18446744073709551616=((z+18446744073709551616).toNat:Int) by omega]
theorem zc7 {k:IntKind} {z:Int} {K:AV->OP} (h : -9223372036854775808<=z/\z<=9223372036854775807):kJ .i64 (.int k z) K=K (I z):=by
 show qb (uP .i64 z) (λz=>K (.int .i64 z))=_;rw [jI,uU,qI h]
theorem uNeg {z:Int} {K:AV->OP} (h : -9223372036854775807<=z/\z<=9223372036854775808):sNeg (I z) K=K (I (-z)):=by
 show qb (uP .i64 (0-z)) (λz=>K (.int .i64 z))=_;rw [jI,uU,qI (by omega),Int.zero_sub]
theorem zzk {K:AV->OP}:sNeg (I (-9223372036854775808)) K=K (I (-9223372036854775808)):=nr rfl
theorem zzl (l:List Nat):∀ v∈l.map U,fw v=true:=λv hv=>by obtain ⟨x,_,rfl⟩:=List.mem_map.1 hv;rfl
theorem zkg (l:List Nat):fw (encW l)=true:=kV (zzl l)
theorem uGet {l:List Nat} {i x:Nat} (h:l[i]? = some x):(l.map U)[i]? = some (U x):=by rw [List.getElem?_map,h];rfl
theorem uLen {l:List Nat} {K:AV->OP}:sLen (encW l) K=K (I l.length):=zV ..
theorem uIx {l:List Nat} {i:Nat} {j:Int} {op:AV->OP} (hj:j=(i:Int)) (hi:i<l.length):zN 1 (encW l) (I j) op=op (.fp ((l.map U).drop (i*1))):=bR hj hi
theorem uLd {l:List Nat} {i x:Nat} {h:T Blk} {op:AV->OP} (hx:l[i]? = some x):zI (.fp ((l.map U).drop (i*1))) h op=op (U x):=ldL (uGet hx)
theorem Hp.zo1 {h0 h:T Blk} {nx id:Pa} {L:List Ob} {l:List AV} (H:Hp h0 h nx (.arr id l::L)):Hp h0 (T.set .no .no id h) nx L:=by
 have hid:T.get .no id h0=.no:=H.off id (by simp [Ob.names]);have H3:=H.drop;have nd:=H.nd;simp only [Zbx,Ob.names] at nd;have hni:id∉L.flatMap Ob.names:=λhi=>(List.nodup_append.1 nd).2.2 id (by simp) id hi rfl;have other:∀ j,j≠id->T.get .no j (T.set .no .no id h)=T.get .no j h:=λj hj=>T.zk _ _ _ _ _ hj;refine ⟨λj hj => ?_,λy hy => ?_,H3.off,H3.nd,λj hj => ?_⟩
 .rw [other j (by rintro rfl;exact hj hid)];exact H.keep j hj
 .exact (H3.own y hy).congr λm hm=>other m (by rintro rfl;exact hni (List.mem_flatMap.2 ⟨y,hy,hm⟩))
 .by_cases e:j=id
  .subst e;exact T.get_set_same _ _ _ _
  .rw [other j e];exact H.fr j hj
theorem zv1 {a b:Nat} (ha:a<18446744073709551616) (hb:b<18446744073709551616):Pure Tryz.prog B 263 [U a,U b] (· = .tup [U (a*b / 18446744073709551616),U (a*b%18446744073709551616)]):=by
 intro p h nx K hK;refine zM zO yD 10 λhf => ?_;rw [jb.go,jb.t23,zA,jb.zx,zA,jb.zu,uAnd ha,zA,jb.je,zah,zA,jb.bq,uAnd hb,zA,jb.fD,zah];have ha0:a%4294967296<4294967296:=by omega
 have ha1:a / 4294967296<4294967296:=by omega
 have hb0:b%4294967296<4294967296:=by omega
 have hb1:b / 4294967296<4294967296:=by omega
 have ea:a=a / 4294967296*4294967296+a%4294967296:=by omega
 have eb:b=b / 4294967296*4294967296+b%4294967296:=by omega
 generalize a / 4294967296=a1 at *
 generalize a%4294967296=a0 at *
 generalize b / 4294967296=b1 at *
 generalize b%4294967296=b0 at *
 have m00:a0*b0<=4294967295*4294967295:=Zbg (by omega) (by omega);have m10:a1*b0<=4294967295*4294967295:=Zbg (by omega) (by omega);have m01:a0*b1<=4294967295*4294967295:=Zbg (by omega) (by omega);have m11:a1*b1<=4294967295*4294967295:=Zbg (by omega) (by omega);have hp:a*b=a1*b1*18446744073709551616+(a1*b0+a0*b1)*4294967296+a0*b0:=by
  rw [ea,eb];simp only [Zaz,Zdz];have e1:a1*4294967296*(b1*4294967296)=a1*b1*18446744073709551616:=by
   rw [Nat.mul_mul_mul_comm]
  have e2:a1*4294967296*b0=a1*b0*4294967296:=by rw [Nat.mul_right_comm]
  have e3:a0*(b1*4294967296)=a0*b1*4294967296:=by rw [Zdv]
  rw [e1,e2,e3];omega
 rw [zA,jb.mg,uMul,Zca (show a0*b0<18446744073709551616 by omega),zA,jb.qj,uMul,Zca (show a1*b0<18446744073709551616 by omega),zah,uAdd,Zca (show a1*b0+a0*b0 / 4294967296<18446744073709551616 by omega),zA,jb.nk,uAnd (by omega),zA,jb.fQ,zah,zA,jb.nu,uMul,Zca (show a0*b1<18446744073709551616 by omega),uAdd,zA,jb.rH,uMul,Zca (show a1*b1<18446744073709551616 by omega),uAdd,zah,uAdd,zA,jb.mh,uMul];simp only [zH,zP];rw [jb.ret];refine hK _ ?_ hf;rw [hp]
 generalize a0*b0=p00 at *
 generalize a1*b0=p10 at *
 generalize a0*b1=p01 at *
 generalize a1*b1=p11 at *
 congr 3
 congr 1
 omega
theorem zc8 {z:Int} (h : -9223372036854775808<=z/\z<=9223372036854775807):Pure Tryz.prog B 264 [I z] (· = U z.natAbs):=by
 refine zX λhh nx K H0 hK=>zM zO yD 100 λhf => ?_;have ret:∀ {m:Nat},m=z.natAbs->K (U m) hh nx=.ok True:=λe=>hK _ _ _ _ _ H0 (zY rfl) (by rw [e]);rw [xh.go,xh.t9,zA,xh.zx,zA,zA,xh.zu,ji,zB,xh.v2];by_cases c:z<0
 .rw [Zac c,zD,zA,xh.je];by_cases d:z = -9223372036854775808
  .subst d;rw [zzk,zo0 (by omega)];simp only [zH,zP];rw [xh.ret];exact ret (by decide)
  .rw [uNeg (by omega),zoz (m:=z.natAbs) (by omega) (by omega)];simp only [zH,zP];rw [xh.ret];exact ret rfl
 .rw [Zab c,zC,zE,zA,xh.qj,zoz (m:=z.natAbs) (by omega) (by omega)];simp only [zH,zP];rw [xh.ret];exact ret rfl
theorem zrk {l:List Nat} {k x:Nat} (h:l[k]? = some x) (hx:x≠0):Nm (l.take (k+1)):=by
 unfold Nm;rw [Zau,h];show (l.take k++[x]).getLast? ≠ _;rw [List.getLast?_concat];intro q;cases q;exact hx rfl
theorem Dg.take {b n:Nat} {l:List Nat} (h:Dg b l):Dg b (l.take n):=λx hx=>h x (Zcp hx)
def cmpT (a b:List Nat):Nat->Int
 | 0=>0
 | k+1=>if a.getD k 0=b.getD k 0 then cmpT a b k else if a.getD k 0<b.getD k 0 then -1 else 1
def cmpW (a b:List Nat):Int:=if a.length≠b.length then (if a.length<b.length then -1 else 1) else cmpT a b a.length
theorem getD_some {l:List Nat} {k:Nat} (h:k<l.length):l[k]? = some (l.getD k 0):=by rw [Zaa,List.getElem?_eq_getElem h];rfl
theorem getD_lt {b:Nat} {l:List Nat} {k:Nat} (hb:0<b) (h:Dg b l):l.getD k 0<b:=by
 by_cases c:k<l.length
 .exact h _ (Zad (getD_some c))
 .rw [Zaa,List.getElem?_eq_none (by omega)];exact hb
theorem zbx {b:Nat} {x y:List Nat} (hb:0<b) (hx:Dg b x) (hy:Dg b y):∀ {k:Nat},k<=x.length->k<=y.length->cmpT x y k=(if bv b (x.take k)<bv b (y.take k) then -1 else if bv b (y.take k)<bv b (x.take k) then 1 else 0)
 | 0,_,_=>by simp [cmpT,bv]
 | k+1,h1,h2=>by
  have e1:=getD_some (l:=x) (k:=k) (by omega);have e2:=getD_some (l:=y) (k:=k) (by omega);have l1:=zbv hb (hx.take (n:=k));have l2:=zbv hb (hy.take (n:=k));rw [Zal,Zbn (by omega)] at l1 l2;rw [cmpT,xK e1,xK e2,zbx hb hx hy (by omega) (by omega)]
  generalize bv b (x.take k)=X at *
  generalize bv b (y.take k)=Y at *
  generalize x.getD k 0=u at *
  generalize y.getD k 0=v at *
  generalize b ^ k=P at *
  by_cases c:u=v
  .rw [if_pos c,c];simp only [Nat.add_lt_add_iff_right]
  .rw [if_neg c];by_cases d:u<v
   .have q:P*(u+1)<=P*v:=Zdn P d;rw [Zdz,Zck] at q;have q1:X+P*u<Y+P*v:=by omega
    rw [if_pos d,if_pos q1]
   .have q:P*(v+1)<=P*u:=Zdn P (by omega);rw [Zdz,Zck] at q;have q1:Y+P*v<X+P*u:=by omega
    have q2:¬ X+P*u<Y+P*v:=by omega
    rw [if_neg d,if_neg q2,if_pos q1]
theorem qK {b z n:Nat} (hb:2<=b) (h:z<b ^ n):(dg b z).length<=n:=by
 induction n generalizing z with
 | zero=>rw [show z=0 by simp at h;exact h,gJ];simp
 | succ n ih =>
  by_cases hz:z=0
  .rw [hz,gJ];simp
  .rw [kE hb hz,Zba];have:=ih (z:=z / b) (by rw [Zfi (by omega),<- Zcx];exact h);omega
theorem wD {b y z:Nat} (hb:2<=b) (h:(dg b y).length<(dg b z).length):y<z:=by
 rcases Zdl y z with q | q
 .exact q
 .exfalso
  have h1:=qK hb (z:=z) (n:=(dg b y).length) (Zfu q (by
   have:=zbv (b:=b) (by omega) (xO hb y).2.1
   rwa [(xO hb y).1] at this))
  omega
def cmpN (a b:Nat):Int:=if a<b then -1 else if b<a then 1 else 0
theorem zrl {b x y:Nat} (hb:2<=b):cmpW (dg b x) (dg b y)=cmpN x y:=by
 unfold cmpW cmpN;by_cases c:(dg b x).length=(dg b y).length
 .rw [if_neg (by simpa using c),zbx (by omega) (xO hb x).2.1 (xO hb y).2.1 (Zaf _) (by omega),Zcq,c,Zcq,(xO hb x).1,(xO hb y).1]
 .rw [if_pos c];by_cases d:(dg b x).length<(dg b y).length
  .rw [if_pos d,if_pos (wD hb d)]
  .have:=wD hb (y:=y) (z:=x) (by omega);rw [if_neg d,if_neg (by omega),if_pos this]
theorem set_mid {α:Type} {A C:List α} {x y:α} {i:Nat} (h:A.length=i):(A++x::C).set i y=A++y::C:=by
 subst h;rw [Zeh _ _ (Zaf _),Zcd];rfl
theorem Dg.append {b:Nat} {l m:List Nat} (h1:Dg b l) (h2:Dg b m):Dg b (l++m):=λx hx=>by
 rcases List.mem_append.1 hx with q | q
 .exact h1 x q
 .exact h2 x q
theorem Dg.one {b x:Nat} (h:x<b):Dg b [x]:=λy hy=>by rw [List.mem_singleton.1 hy];exact h
theorem Dg.rep {b n:Nat} (h:0<b):Dg b (List.replicate n 0):=λx hx=>by rw [(List.mem_replicate.1 hx).2];exact h
def zai:List UInt8:=[0,1,2,2,3,3,3,3,4,4,4,4,4,4,4,4,5,5,5,5,5,5,5,5,5,5,5,5,5,5,5,5,6,6,6,6,6,6,6,6,6,6,6,6,6,6,6,6,6,6,6,6,6,6,6,6,6,6,6,6,6,6,6,6,7,7,7,7,7,7,7,7,7,7,7,7,7,7,7,7,7,7,7,7,7,7,7,7,7,7,7,7,7,7,7,7,7,7,7,7,7,7,7,7,7,7,7,7,7,7,7,7,7,7,7,7,7,7,7,7,7,7,7,7,7,7,7,7,8,8,8,8,8,8,8,8,8,8,8,8,8,8,8,8,8,8,8,8,8,8,8,8,8,8,8,8,8,8,8,8,8,8,8,8,8,8,8,8,8,8,8,8,8,8,8,8,8,8,8,8,8,8,8,8,8,8,8,8,8,8,8,8,8,8,8,8,8,8,8,8,8,8,8,8,8,8,8,8,8,8,8,8,8,8,8,8,8,8,8,8,8,8,8,8,8,8,8,8,8,8,8,8,8,8,8,8,8,8,8,8,8,8,8,8,8,8,8,8,8,8,8,8,8,8,8,8]
theorem zkh:∀ i<256,(zai[i]?).all (λt=>decide (t.toNat<=8/\i<2 ^ t.toNat/\(0<i->2 ^ t.toNat<=2*i)))=true/\(zai[i]?).isSome=true:=by decide
def zaj (x n:Nat):Prop:=n<=64/\x<2 ^ n/\(0<x->2 ^ n<=2*x)
theorem zak {x n k:Nat} (h:zaj (x / 2 ^ k) n) (hx:2 ^ k<=x) (hn:n+k<=64):zaj x (n+k):=by
 obtain ⟨h1,h2,h3⟩:=h;have hp:0<2 ^ k:=Nat.pow_pos (by omega);have h4:0<x / 2 ^ k:=Nat.div_pos hx hp;refine ⟨hn,?_,λ_ => ?_⟩
 .rw [Zea];exact (Zfi hp).1 h2
 .rw [Zea];have:=Zax (2 ^ k) (h3 h4);have h5:=Nat.div_mul_le_self x (2 ^ k);rw [Zdv] at this;omega
theorem zir {x n:Nat} {K:Kw Prop} {h:T Blk} {nx:Pa} {x2 x3 x4:AV} (hx:x<256) (hn:n<=1000) (hK:∀ t,zaj x t->t<=8->K (I ((n+t:Nat):Int)) h nx=.ok True) :
  IR.run yh.t20 (CS Tryz.prog B) 100 (fnO yh.res K) (zi yh.res K) (yh.fr (U x) (I (n:Int)) x2 x3 x4) h nx=.ok True:=by
 obtain ⟨a,b⟩:=zkh x hx;obtain ⟨t,ht⟩:=Option.isSome_iff_exists.1 b;rw [ht] at a;simp only [Option.all_some,decide_eq_true_eq] at a;have hs:∀ K:AV->OP,jO (.str zai) (.int .u8 (x:Int)) K=K (.int .u8 (t.toNat:Int)):=λK=>by
  show (match zai[x]? with
   | some b=>ql b.toNat λn=>K (.int .u8 (.ofNat n))
   | none=>.no 16)=_
  rw [ht];simp only [yH];rfl
 have hc:∀ K:AV->OP,kJ .u8 (U x) K=K (.int .u8 (x:Int)):=λK=>by
  show qb (uP .u8 (x:Int)) (λz=>K (.int .u8 z))=_;rw [jI,uU];have e:IntKind.wrap .u8 (x:Int)=(x:Int)%256:=by
   unfold IntKind.wrap;first | rfl | simp [IntKind.bits,IntKind.signed]
  rw [e,show (x:Int)%256=(x:Int) by omega]
 rw [yh.t20,zA,yh.nQ,hc];rw [show (AV.str [0,1,2,2,3,3,3,3,4,4,4,4,4,4,4,4,5,5,5,5,5,5,5,5,5,5,5,5,5,5,5,5,6,6,6,6,6,6,6,6,6,6,6,6,6,6,6,6,6,6,6,6,6,6,6,6,6,6,6,6,6,6,6,6,7,7,7,7,7,7,7,7,7,7,7,7,7,7,7,7,7,7,7,7,7,7,7,7,7,7,7,7,7,7,7,7,7,7,7,7,7,7,7,7,7,7,7,7,7,7,7,7,7,7,7,7,7,7,7,7,7,7,7,7,7,7,7,7,8,8,8,8,8,8,8,8,8,8,8,8,8,8,8,8,8,8,8,8,8,8,8,8,8,8,8,8,8,8,8,8,8,8,8,8,8,8,8,8,8,8,8,8,8,8,8,8,8,8,8,8,8,8,8,8,8,8,8,8,8,8,8,8,8,8,8,8,8,8,8,8,8,8,8,8,8,8,8,8,8,8,8,8,8,8,8,8,8,8,8,8,8,8,8,8,8,8,8,8,8,8,8,8,8,8,8,8,8,8,8,8,8,8,8,8,8,8,8,8,8,8,8,8,8,8,8,8])=.str zai from rfl,hs,zc7 (by omega),gq (by omega)];simp only [zH,zP];rw [yh.ret,show (n:Int)+(t.toNat:Int)=((n+t.toNat:Nat):Int) by omega];exact hK _ ⟨by omega,a.2⟩ a.1
theorem zo2 {x:Nat} (hx:x<18446744073709551616):Pure Tryz.prog B 312 [U x] (λv=>∃ n:Nat,v=I (n:Int)/\zaj x n):=by
 intro p h nx K hK;refine zM zO yD 100 λhf => ?_;have fin:∀ {n},zaj x n->K (I (n:Int)) h nx=.ok True:=λh'=>hK _ ⟨_,rfl,h'⟩ hf;have s3:∀ (y n:Nat) (x2 x3 x4:AV),y<65536->n<=48->(∀ t,zaj y t->t<=16->K (I ((n+t:Nat):Int)) h nx=.ok True)->IR.run yh.t21 (CS Tryz.prog B) 100 (fnO yh.res K) (zi yh.res K) (yh.fr (U y) (I (n:Int)) x2 x3 x4) h nx=.ok True:=λy n x2 x3 x4 hy hn hK'=>by
  rw [yh.t21,zA,zA,yh.fK,show (AV.int .u64 256)=U 256 from rfl,uGeq,zB,yh.v4];by_cases c:256<=y
  .rw [Zac c,zD,zA,yh.rJ,show (AV.int .u64 8)=.int .u64 ((8:Nat):Int) from rfl,uShr (by omega),yh.tZ,gq (by omega),show (n:Int)+8=((n+8:Nat):Int) by omega];exact zir (by omega) (by omega) λt h1 h2=>by
    have:=hK' (t+8) (zak h1 c (by omega)) (by omega)
    rwa [show n+(t+8)=n+8+t by omega] at this
  .rw [Zab c,zC,zE];exact zir (by omega) (by omega) λt h1 h2=>hK' t h1 (by omega)
 have s2:∀ (y n:Nat) (x2 x3 x4:AV),y<4294967296->n<=32->(∀ t,zaj y t->t<=32->K (I ((n+t:Nat):Int)) h nx=.ok True)->IR.run yh.t22 (CS Tryz.prog B) 100 (fnO yh.res K) (zi yh.res K) (yh.fr (U y) (I (n:Int)) x2 x3 x4) h nx=.ok True:=λy n x2 x3 x4 hy hn hK'=>by
  rw [yh.t22,zA,zA,yh.nk,show (AV.int .u64 65536)=U 65536 from rfl,uGeq,zB,yh.v3];by_cases c:65536<=y
  .rw [Zac c,zD,zA,yh.fQ,show (AV.int .u64 16)=.int .u64 ((16:Nat):Int) from rfl,uShr (by omega),yh.nu,gq (by omega),show (n:Int)+16=((n+16:Nat):Int) by omega];exact s3 _ _ _ _ _ (by omega) (by omega) λt h1 h2=>by
    have:=hK' (t+16) (zak h1 c (by omega)) (by omega)
    rwa [show n+(t+16)=n+16+t by omega] at this
  .rw [Zab c,zC,zE];exact s3 _ _ _ _ _ (by omega) (by omega) λt h1 h2=>hK' t h1 (by omega)
 rw [yh.go,yh.t24,zA,yh.zx,zA,zA,yh.zu,show (AV.int .u64 4294967296)=U 4294967296 from rfl,uGeq,zB,yh.v2];by_cases c:4294967296<=x
 .rw [Zac c,zD,zA,yh.je,show (AV.int .u64 32)=.int .u64 ((32:Nat):Int) from rfl,uShr (by omega),yh.bq];exact s2 _ 32 _ _ _ (by omega) (by omega) λt h1 h2=>by
   have:=fin (zak h1 c (by omega))
   rwa [show t+32=32+t by omega] at this
 .rw [Zab c,zC,zE];exact s2 _ 0 _ _ _ (by omega) (by omega) λt h1 h2=>by
   have:=fin h1
   rwa [show t=0+t by omega] at this
theorem uQuo {a b:Nat} {K:AV->OP} (hb:1<=b) (ha:a<18446744073709551616):za .quo .int (U a) (U b) K=K (U (a / b)):=by
 have e:za .quo .int (U a) (U b) K=(bif ieq (b:Int) 0 then Out.no 5 else qb (IntKind.u64.wrap ((a:Int).tdiv b)) λz=>K (.int .u64 z)):=rfl;have h0:ieq (b:Int) 0=false:=by
  cases b with
  | zero=>omega
  | succ b=>rfl
 have h1:a / b<=a:=Zcz a b;rw [e,h0,cond_false,jI,show (a:Int).tdiv b=((a / b:Nat):Int) from rfl]
 generalize a / b=q at *
 rw [zow (by omega)]
theorem uRem {a b:Nat} {K:AV->OP} (hb:1<=b) (ha:a<18446744073709551616):za .rem .int (U a) (U b) K=K (U (a%b)):=by
 have e:za .rem .int (U a) (U b) K=(bif ieq (b:Int) 0 then Out.no 5 else qb ((a:Int).tmod b) λz=>K (.int .u64 z)):=rfl;have h0:ieq (b:Int) 0=false:=by
  cases b with
  | zero=>omega
  | succ b=>rfl
 rw [e,h0,cond_false,jI,show (a:Int).tmod b=((a%b:Nat):Int) from rfl]
theorem zo3 {b q r d a z A:Nat} (h:A=z*d+r) (hq:(r*b+a)=q*d+(r*b+a)%d):a+b*A=(q+b*z)*d+(r*b+a)%d:=by
 rw [h,Zaz,Zdz,Zdv,Zbo b r];omega
theorem zo4 {k:Nat} {Q:List Nat}:List.replicate (k+1) 0++Q=List.replicate k 0++0::Q:=by
 rw [List.replicate_succ',Zbi];rfl
def tX (s w:AV) (z:Int):Prop :=
 (s=I z/\w=.zb /\ -9223372036854775808<=z/\z<=9223372036854775807) \/
 (∃ n:Int,s=I n/\w=encW (dg 18446744073709551616 z.natAbs)/\((z<0/\n = -1)\/(0<z/\n=1))/\9223372036854775808<=z.natAbs)
def IntV (v:AV) (z:Int):Prop:=∃ s w,v=.agg [s,w]/\tX s w z
theorem uAgg {N:Pa->Prop} {O:AV->Prop} {hh:T Blk} {l:List AV} (h:∀ v∈l,fw v=true):Frz True N O hh (.agg l) (.agg l) :=
 .agg _ _ rfl (List.all_eq_true.2 λv hv=>fw.uz (h v hv)) λi v v' h1 h2=>by rw [h1] at h2;cases h2;exact zY (h v (Zad h1))
theorem tX.fix {s w:AV} {z:Int} (h:tX s w z):∀ v∈[s,w],fw v=true:=by
 intro v hv;simp only [Zan,List.not_mem_nil,or_false] at hv;rcases h with ⟨rfl,rfl,_⟩ | ⟨n,rfl,rfl,_⟩
 .rcases hv with rfl | rfl <;> rfl
 .rcases hv with rfl | rfl
  .rfl
  .exact zkg _
theorem IntV.frz {v:AV} {z:Int} (h:IntV v z) {N:Pa->Prop} {O:AV->Prop} {hh:T Blk}:Frz True N O hh v v:=by
 obtain ⟨s,w,rfl,h⟩:=h;exact uAgg h.fix
theorem zal {z:Int} (h : -9223372036854775808<=z/\z<=9223372036854775807):IntV (.agg [I z,.zb]) z:=⟨_,_,rfl,.inl ⟨rfl,rfl,h.1,h.2⟩⟩
theorem zzm {n:Nat} (h:n≠0):1<=(dg 18446744073709551616 n).length:=by rw [kE (by decide) h];simp
theorem zv2 {K:AV->OP}:za .eql (.nil .sl) .zb .zb K=K (.bool true):=nr rfl
theorem zrm {l:List Nat} (h:1<=l.length):gO .sl (encW l)=some false:=by
 show (bif Nat.ble 1 l.length then some false else none)=_;rw [Zag h];rfl
theorem zv3 {l:List Nat} {K:AV->OP} (h:1<=l.length):za .eql (.nil .sl) (encW l) .zb K=K (.bool false):=by
 have e2:za .eql (.nil .sl) (encW l) .zb K=(match gO .sl (encW l),gO .sl .zb with
  | some b,some true=>dR .eql b K
  | _,_=>.no 5):=nr rfl
 rw [e2,zrm h];rfl
theorem zrn {z:Int} {K:AV->OP}:gF [(I 0),.zb] [(0,1,I z)] K=K (.agg [I z,.zb]):=nr rfl
def Zs (k:Nat) (z:Int):Prop:=z.natAbs<18446744073709551616 ^ k
theorem Zs.len {k:Nat} {z:Int} (h:Zs k z):(dg 18446744073709551616 z.natAbs).length<=k:=qK (by decide) h
theorem of85 {z:Int} (h : -9223372036854775808<=z/\z<=9223372036854775807):Pure Tryz.prog B 187 [I z] (λv=>IntV v z):=by
 refine zX λhh nx K H0 hK=>zM zO yD 100 λhf => ?_;rw [bf.go,bf.t3,zA,bf.zx];refine H0.alloc λp h1 nx1 H1 => ?_;rw [zA,bf.zu,zrn];refine H1.yx (l2:=[I z,.zb]) (k:=0) rfl rfl rfl λh4 H4 => ?_;simp only [zH,zP];rw [bf.ret,H4.zn (k:=0) (n:=2) rfl rfl];exact hK _ _ _ _ _ H4 (zal h).frz (zal h)
abbrev D (m:Nat):AV:=I (m:Int)
def mq (l:List Nat):AV:=.lst 1 l.length (l.map D)
theorem zo5 (l:List Nat):∀ v∈l.map D,fw v=true:=λv hv=>by obtain ⟨x,_,rfl⟩:=List.mem_map.1 hv;rfl
theorem kP (l:List Nat):fw (mq l)=true:=kV (zo5 l)
theorem dGet {l:List Nat} {i x:Nat} (h:l[i]? = some x):(l.map D)[i]? = some (D x):=by rw [List.getElem?_map,h];rfl
theorem dLen {l:List Nat} {K:AV->OP}:sLen (mq l) K=K (I l.length):=zV ..
theorem dIx {l:List Nat} {i:Nat} {j:Int} {op:AV->OP} (hj:j=(i:Int)) (hi:i<l.length):zN 1 (mq l) (I j) op=op (.fp ((l.map D).drop (i*1))):=bR hj hi
theorem dLd {l:List Nat} {i x:Nat} {h:T Blk} {op:AV->OP} (hx:l[i]? = some x):zI (.fp ((l.map D).drop (i*1))) h op=op (D x):=ldL (dGet hx)
theorem Hp.letD {h0 h:T Blk} {nx:Pa} {L:List Ob} {id:Pa} {l:List Nat} {n:Nat} (H:Hp h0 h nx (.arr id (l.map D)::L)) (hn:l.length=n):∃ h',kL h' h/\Hp h0 h' nx L/\rV h' h (.sl id 0 n (some n) 1) (mq l):=by
 subst hn;exact ⟨_,oW,H.zo1,qa.frz (H.own _ (Zak ..)) (T.get_set_same _ _ _ _) (Zaf _) (by simp) (zo5 l)⟩
theorem zv4 {l:List Nat} {i:Nat} {op:AV->OP} (hl:1<=l.length) (hi:i<=l.length):xS 1 (mq l) none (some (I (i:Int))) none op=op (mq (l.take i)):=by
 show (bif Nat.beq 1 1&&Nat.ble 1 l.length then (match bnd (some (I (i:Int))) l.length l.length with | none=>Out.no 17 | some h=>match bnd none h 0 with | none=>.no 17 | some q=>op (.lst 1 (h-q) (((l.map D).drop (q*1)).take ((h-q)*1)))) else .no 17)=_;rw [Zag hl];have:bnd (some (I (i:Int))) l.length l.length=some i:=by
  show (bif Nat.ble i l.length then some i else none)=_;rw [Zag hi];rfl
 rw [this];show op (.lst 1 (i-0) (((l.map D).drop (0*1)).take ((i-0)*1)))=_;unfold mq;rw [Zal,Zbn hi,Zfc];simp
theorem Hp.zis {h0 h:T Blk} {nx:Pa} {L:List Ob} (H:Hp h0 h nx L) (e:Nat):Hp h0 h nx (.gro none e 0 []::L) :=
  ⟨H.keep,fun x hx=>by rcases List.mem_cons.1 hx with rfl | q;· exact ⟨rfl,rfl⟩
                       . exact H.own x q,λn hn=>H.off n (by simpa [Ob.names] using hn),by have:=H.nd;simpa [Ob.names] using this,H.fr⟩
theorem zc9 {l:List Nat} (hd:Dg 1000000000 l) (hl:l.length<=1000000):Pure Tryz.prog B 269 [mq l] (· = mq (dg 1000000000 (bv 1000000000 l))):=by
 refine zX λh nx K H0 hK=>zM zO yD 1000010 λhf => ?_;rw [jq.go,jq.t12,zA,jq.zx,zA,zJ];refine jq.t7_L (λm x0 h' nx'=>x0=mq (l.take m)/\m<=l.length/\bv 1000000000 (l.take m)=bv 1000000000 l/\Hp h h' nx' []) (m:=l.length) (by omega) ⟨by rw [Zcq],by omega,by rw [Zcq],H0⟩ ?_;rintro m z0 z2 h3 nx3 R ⟨rfl,hm,hb,H3⟩ hR;have fin:Nm (l.take m)->K (mq (l.take m)) h3 nx3=.ok True:=λhn=>hK _ _ _ _ _ H3 (zY (kP _)) (by rw [<- hb,<- zbw (by decide) hd.take hn]);have hlen:(l.take m).length=m:=by rw [Zal];omega
 rw [jq.t6,zA,zA,jq.zu,jq.nR,jq.nS,dLen,qm,hlen];cases m with
 | zero =>
  rw [Zab (by omega)];simp only [yZ];rw [jq.rO,jq.fT];simp only [yZ,zW];rw [zB,jq.v2,zC,yA,yF,zA,jq.nu];simp only [zH,zP];rw [jq.ret];exact fin (by simp [Nm])
 | succ k =>
  have e:l[k]? = some (l.getD k 0):=getD_some (by omega);have e':(l.take (k+1))[k]? = some (l.getD k 0):=by rw [List.getElem?_take_of_lt (by omega),e]
  rw [Zac (by omega)];simp only [yL];rw [dLen,hlen,wz (by omega),jq.rO,jq.fT];simp only [yL];rw [dIx (i:=k) (by omega) (by omega),dLd e',vw,zZ,zB,jq.v2];by_cases d:l.getD k 0=0
  .rw [Zac (by omega),zD,zE,zJ,jq.fD,dLen,hlen,wz (by omega),show ((k+1:Nat):Int)-1=((k:Nat):Int) by omega,zv4 (by omega) (by omega),List.take_take,Zbn (by omega)];refine hR k _ _ _ _ (by omega) ⟨rfl,by omega,?_,H3⟩;rw [xK e,d] at hb;simpa using hb
  .rw [Zab (by omega),zC,yA,yF,zA,jq.nu];simp only [zH,zP];rw [jq.ret];exact fin (zrk e d)
def refZ (z:Int):AV:=.agg [.bool (decide (z<0)),mq (dg 1000000000 z.natAbs)]
theorem zv5 {b:Bool} {l:List Nat} {K:AV->OP}:gF [(.bool false),.zb] [(0,1,.bool b),(1,1,mq l)] K=K (.agg [.bool b,mq l]):=nr rfl
theorem dAgg {N:Pa->Prop} {O:AV->Prop} {hh:T Blk} {b:Bool} {l:List Nat}:Frz True N O hh (.agg [.bool b,mq l]) (.agg [.bool b,mq l]):=uAgg λv hv=>by
 simp only [Zan,List.not_mem_nil,or_false] at hv;rcases hv with rfl | rfl
 .rfl
 .exact kP l
theorem zhc {n:Nat} (h:n≠0):1<=(dg 1000000000 n).length:=by rw [kE (by decide) h];simp
theorem zby {b:Bool} {l:List Nat} (hd:Dg 1000000000 l) (hl:l.length<=1000000):Pure Tryz.prog B 214 [.bool b,mq l] (· = refZ (if b then -(bv 1000000000 l:Int) else (bv 1000000000 l:Int))):=by
 refine zX λh nx K H0 hK=>zM zO yD 100 λhf => ?_;rw [dx.go,dx.t5,zA,dx.zx];refine H0.alloc λp h1 nx1 H1 => ?_;rw [zA,dx.zu];refine zc9 hd hl _ _ _ _ ?_;rintro _ rfl _;rw [zA,dx.je];have key:∀ c:Bool,c=(b&&decide (0<bv 1000000000 l))->(gF [(.bool false),.zb] [(0,1,.bool c),(1,1,mq (dg 1000000000 (bv 1000000000 l)))] λv5=>zT 2 (.ptr p 0) v5 h1 nx1 λv6 h7 n8=>IR.run .ret (CS Tryz.prog B) 100 (fnO dx.res K) (zi dx.res K) (dx.fr (.bool b) (mq (dg 1000000000 (bv 1000000000 l))) (.ptr p 0)) h7 n8)=.ok True:=by
  intro c hc;rw [zv5];refine H1.yx (l2:=[.bool c,mq (dg 1000000000 (bv 1000000000 l))]) (k:=0) rfl rfl rfl λh2 H2 => ?_;simp only [zH,zP];rw [dx.ret,H2.zn (k:=0) (n:=2) rfl rfl];refine hK _ _ _ _ _ H2 dAgg ?_;unfold refZ;subst hc;cases b with
  | false=>rw [if_neg (by decide),Zbr,Zab (show ¬ ((bv 1000000000 l:Int)<0) by omega)];rfl
  | true =>
   rw [if_pos rfl,Zei,Zbr,Bool.true_and]
   congr 3
   exact decide_eq_decide.2 (by omega)
 cases b with
 | false =>
  simp only [yZ,zW];exact key _ rfl
 | true =>
  simp only [yL];rw [dLen,qm,zZ];refine key _ ?_;rw [Bool.true_and];refine decide_eq_decide.2 ?_;rcases Zdy (bv 1000000000 l) with q | q
  .rw [q,gJ];simp
  .have:=zhc (n:=bv 1000000000 l) (by omega);omega
theorem zro {a b:List Nat} (ha:a.length<=1000000) (hb:b.length<=1000000):Pure Tryz.prog B 216 [mq a,mq b] (· = I (cmpW a b)):=by
 refine zX λh nx K H0 hK=>zM zO yD 1000010 λhf' => ?_;have ret:∀ {h1 nx1 L} {z:Int},Hp h h1 nx1 L->z=cmpW a b->K (I z) h1 nx1=.ok True:=λH e=>hK _ _ _ _ _ H (zY rfl) (by rw [e]);rw [zy.go,zy.t38,zA,zy.zx,zA,zA,zy.zu,dLen,dLen,di,zB,zy.v4];by_cases c:a.length=b.length
 case neg =>
  rw [Zab (by omega),Zao,zD,zA,zA,zy.je,dLen,dLen,ji,zB,zy.v5];by_cases d:a.length<b.length
  .rw [Zac (by omega),zD,zA,zy.bq];simp only [zH,zP];rw [zy.ret];exact ret H0 (by rw [cmpW,if_pos c,if_pos d])
  .rw [Zab (by omega),zC,zE,zA,zy.nk];simp only [zH,zP];rw [zy.ret];exact ret H0 (by rw [cmpW,if_pos c,if_neg d])
 rw [Zac (by omega),Zaj,zC,zE,zA,zA,zy.fB,dLen,wz (by omega),zJ];refine zy.zk2 (λm x3 h' nx'=>∃ k:Nat,x3=I ((k:Int)-1)/\m=k/\k<=a.length/\cmpT a b k=cmpT a b a.length/\Hp h h' nx' []) (m:=a.length) (by omega) ⟨a.length,rfl,rfl,by omega,rfl,H0⟩ ?_;rintro m z2 z3 z6 z7 z8 h3 nx3 R ⟨k,rfl,rfl,hk,hc,H3⟩ hR;rw [zy.t30,zA,zA,zy.fK,pz];cases m with
 | zero =>
  rw [Zab (by omega),zB,zy.v6,zC,yA,yF,zA,zy.af];simp only [zH,zP];rw [zy.ret];exact ret H3 (by rw [cmpW,if_neg (λq=>q c),<- hc];rfl)
 | succ k =>
  have ea:=getD_some (l:=a) (k:=k) (by omega);have eb:=getD_some (l:=b) (k:=k) (by omega);rw [cmpT] at hc;rw [Zac (by omega),zB,zy.v6,zD,zE,zA,zJ,zA,zA,zy.sJ,dIx (i:=k) (by omega) (by omega),dLd ea,dIx (i:=k) (by omega) (by omega),dLd eb,ji,zB,zy.v7];by_cases e:a.getD k 0<b.getD k 0
  .rw [if_neg (by omega),if_pos e] at hc;rw [Zac (by omega),zD,zA,zy.nV];simp only [zH,vG,zP];rw [zy.ret];exact ret H3 (by rw [cmpW,if_neg (λq=>q c),<- hc])
  rw [Zab (by omega),zC,zE,zA,zy.zk1,dIx (i:=k) (by omega) (by omega),dLd ea,dIx (i:=k) (by omega) (by omega),dLd eb,qm,zB,zy.v8];by_cases d:a.getD k 0=b.getD k 0
  .rw [if_pos d] at hc;rw [Zab (by omega),zC,zE,zy.zdq,wz (by omega)];exact hR k _ _ _ _ _ _ _ (by omega) ⟨k,by congr 1;omega,rfl,by omega,hc,H3⟩
  .rw [if_neg d,if_neg e] at hc;rw [Zac (by omega),zD,zA,zy.sZ];simp only [zH,vG,zP];rw [zy.ret];exact ret H3 (by rw [cmpW,if_neg (λq=>q c),<- hc])
theorem tX.two {s w:AV} {z:Int} (h:tX s w z):(s=I z/\w=.zb /\ -9223372036854775808<=z/\z<=9223372036854775807/\∀ K:AV->OP,za .eql (.nil .sl) w .zb K=K (.bool true))\/(z≠0/\∀ K:AV->OP,za .eql (.nil .sl) w .zb K=K (.bool false)):=by
 rcases h with ⟨rfl,rfl,h1,h2⟩ | ⟨n,rfl,rfl,hs,hb⟩
 .exact .inl ⟨rfl,rfl,h1,h2,λ_=>zv2⟩
 .exact .inr ⟨by omega,λ_=>zv3 (zzm (by omega))⟩
theorem zfd {a b:Int} {K:AV->OP} (ha : -9223372036854775808<=a/\a<=9223372036854775807) (hb:1<=b):za .quo .int (I a) (I b) K=K (I (a.tdiv b)):=by
 have e:za .quo .int (I a) (I b) K=(bif ieq b 0 then Out.no 5 else qb (IntKind.i64.wrap (a.tdiv b)) λz=>K (.int .i64 z)):=rfl;have h0:ieq b 0=false:=by rw [wJ];exact Zab (by omega)
 rw [e,h0,cond_false,jI,Go.IntWalk.i64_quo' a b ⟨ha.1,ha.2,hb⟩]
theorem zfe {a b:Int} {K:AV->OP} (hb:1<=b):za .rem .int (I a) (I b) K=K (I (a.tmod b)):=by
 have e:za .rem .int (I a) (I b) K=(bif ieq b 0 then Out.no 5 else qb (a.tmod b) λz=>K (.int .i64 z)):=rfl;have h0:ieq b 0=false:=by rw [wJ];exact Zab (by omega)
 rw [e,h0,cond_false,jI]
theorem Hp.zo6 {h0 h:T Blk} {nx:Pa} {L:List Ob} {o:Option Pa} {n bytes:Nat} {l:List AV} {z v:AV} {K:Kw Prop} (H:Hp h0 h nx (.gro o 1 n l::L)) (hn:n+1<=1000000) (hb:bytes*1000000<=70368744177664) (hv:v.cells=some [v]) (hs:uz v=true)
  (hK:∀ o' h' nx',Hp h0 h' nx' (.gro o' 1 (n+1) (l++[v])::L)->K (xq o' 1 (n+1)) h' nx'=.ok True) :
  (jM 1 1 [z] [(0,1,v)] h nx λv2 h3 n4=>sK 1 bytes (xq o 1 n) v2 h3 n4 K)=.ok True:=by
 have fill:gI (bQ 1 [z]) [(0,1,v)]=some [v]:=by simp only [gI,hv];rfl
 refine H.dm (l:=[v]) fill λid h1 n1 H1 => ?_;refine H1.appN (k:=1) (new:=[v]) (c:=1) rfl ((H1.own _ (Zak ..)).rd (n:=1) (e:=1) rfl) rfl (by simp [hs]) (by omega) hb hn λo' h2 n2 _ H2 => ?_;exact hK o' h2 n2 (Hp.drop H2)
theorem Hp.zit {h0 h:T Blk} {nx:Pa} {L:List Ob} {o:Option Pa} {n:Nat} {Z:List Nat} (H:Hp h0 h nx (.gro o 1 n (Z.map D)::L)) (hn:Z.length=n):∃ h',kL h' h/\Hp h0 h' nx L/\rV h' h (xq o 1 n) (mq Z):=by
 obtain ⟨h',a,b,c⟩:=H.zvo (zo5 Z);exact ⟨h',a,b,by rw [mq,hn];exact c⟩
theorem sMkD {n:Nat} {x:Int} {h0 h:T Blk} {nx:Pa} {L:List Ob} {K:Kw Prop} (H:Hp h0 h nx L) (hx:x=(n:Int)) (hn:n<=1000000)
  (hK:∀ id h' nx',Hp h0 h' nx' (.arr id ((List.replicate n 0).map D)::L)->K (.sl id 0 n (some n) 1) h' nx'=.ok True):qO 1 8 [(I 0)] (I x) (I x) h nx K=.ok True :=
 H.mk1 n hx hx hn (by omega) λid h' nx' H'=>hK id h' nx' (by rw [List.map_replicate];exact H')
theorem zff {l:List Nat} {d:Nat} (hd:1<=d) (hdN:d<1000000000) (hl:Dg 1000000000 l) (hs:l.length<=100000):Pure Tryz.prog B 268 [mq l,D d] (· = .tup [mq (dg 1000000000 (bv 1000000000 l / d)),D (bv 1000000000 l%d)]):=by
 refine zX λh nx K H0 hK=>zM zO yD 1000010 λhf => ?_;rw [yw.go,yw.t24,zA,yw.zx,zA,yw.zu,dLen];refine sMkD (n:=l.length) H0 rfl (by omega) λid h1 nx1 H1 => ?_;rw [zA,yw.je,zA,zA,yw.bq,dLen,wz (by omega),zJ];refine yw.tq (λm x5 x6 h' nx'=>∃ (r:Nat) (Q:List Nat),x5=D r/\x6=I ((m:Int)-1)/\m<=l.length/\Q.length=l.length-m/\Dg 1000000000 Q/\r<d/\bv 1000000000 (l.drop m)=bv 1000000000 Q*d+r/\Hp h h' nx' [.arr id ((List.replicate m 0++Q).map D)]) (m:=l.length) (by omega) ⟨0,[],rfl,rfl,by omega,by simp,λ_ h=>by simp at h,by omega,by simp [bv],by simpa using H1⟩ ?_;rintro m z5 z6 z7 z8 h3 nx3 R ⟨r,Q,rfl,rfl,hm,hQ,hdQ,hr,hv,H3⟩ hR;rw [yw.t15,zA,zA,yw.fD,pz];cases m with
 | zero =>
  rw [Zab (by omega),zB,yw.v8,zC,yA,yF,zA,yw.nQ];simp only [List.replicate_zero,Zbv] at H3;obtain ⟨h5,hkp,H5,hF⟩:=H3.letD (n:=l.length) (by omega);refine oP hkp (.cons hF .nil) ?_;refine zc9 hdQ (by omega) _ _ _ _ ?_;rintro _ rfl _;simp only [zH,zP];rw [yw.ret];refine hK _ _ _ _ _ H5 (uC (zY (kP _)) (zY rfl)) ?_;rw [Zdg] at hv;obtain ⟨a1,a2⟩:=zv0 hv hr;rw [a1,a2]
 | succ k =>
  have ea:=getD_some (l:=l) (k:=k) (by omega);have haW:=getD_lt (k:=k) (by decide) hl;have e0:l.drop k=l.getD k 0::l.drop (k+1):=by
   have ea:=ea;rw [List.getElem?_eq_getElem (by omega)] at ea;rw [Zbl (by omega),Option.some.inj ea]
  generalize hX:l.getD k 0=x at *
  have hdm:r*1000000000+x=(r*1000000000+x) / d*d+(r*1000000000+x)%d:=by
   rw [Zbo _ d];exact (Nat.div_add_mod _ _).symm
  have hqW:(r*1000000000+x) / d<1000000000:=by
   rw [Zfi (by omega)];have:(r+1)*1000000000<=d*1000000000:=Zax _ hr;omega
  have hrd:(r*1000000000+x)%d<d:=Zdp _ (by omega);have eq1:((r:Int)*1000000000+(x:Int)).tdiv (d:Int)=(((r*1000000000+x) / d:Nat):Int):=by rw [Int.tdiv_eq_ediv_of_nonneg (by omega)];simp
  have eq2:((r:Int)*1000000000+(x:Int)).tmod (d:Int)=(((r*1000000000+x)%d:Nat):Int):=by rw [Zen (by omega)];simp
  rw [Zac (by omega),zB,yw.v8,zD,zE,zA,zJ,zA,yw.nk,fE (by omega),dIx (i:=k) (by omega) (by omega),dLd ea,gq (by omega),zA,yw.fQ];rw [zfd (by omega) (by omega),eq1,sIx (i:=k) (by omega) (by omega)];rw [zo4] at H3;refine H3.store (k:=0) rfl (by simp) rfl λh4 H4 => ?_;rw [yw.nu,zfe (by omega),eq2]
  generalize hQ':(r*1000000000+x) / d=q at *
  simp only [Zfv] at H4;rw [Zbe,Zds,set_mid (by simp)] at H4;rw [yw.fK,wz (by omega)];refine hR k _ _ _ _ _ _ (by omega) ⟨_,q::Q,rfl,by congr 1;omega,by omega,by simp;omega,?_,hrd,?_,by simpa using H4⟩
  .exact (Dg.one hqW).append hdQ
  .rw [e0,bv,bv];exact zo3 hv hdm
def S9 (n:Nat):Prop:=(dg 1000000000 n).length<=99990
theorem zhd {b d:Nat} (hb:2<=b) (h:(dg b d).length=1):dg b d=[d]/\d<b:=by
 have od:=xO hb d;have e1:dg b d=[d]:=by
  cases hdd:dg b d with
  | nil=>rw [hdd] at h;cases h
  | cons x l =>
   rw [hdd] at h;have:l=[]:=by cases l with
    | nil=>rfl
    | cons y l=>simp at h
   subst this;have:=od.1;rw [hdd] at this;simp [bv] at this;rw [this]
 exact ⟨e1,od.2.1 d (by rw [e1];simp)⟩
theorem zki {a d:Nat} (hd:1<=d) (hdN:d<1000000000) (ha:S9 a) (hds:S9 d):Pure Tryz.prog B 213 [mq (dg 1000000000 a),mq (dg 1000000000 d)] (· = .tup [mq (dg 1000000000 (a / d)),mq (dg 1000000000 (a%d))]):=by
 refine zX λh nx K H0 hK=>zM zO yD 1000010 λhf => ?_;have oa:=xO (b:=1000000000) (by decide) a;have od:=xO (b:=1000000000) (by decide) d;unfold S9 at ha hds;rw [uo.go,uo.t109,zA,uo.zx,zA,zA,uo.zu];refine zro (by omega) (by omega) _ _ _ _ ?_;rintro _ rfl _;rw [zrl (by decide),ji,zB,uo.v21];by_cases c:a<d
 .rw [Zac (by rw [cmpN,if_pos c];decide),zD,zA,uo.je];simp only [zH,zP];rw [uo.ret];refine hK _ _ _ _ _ H0 (uC (.zbj 1) (zY (kP _))) ?_;rw [Zek c,Zca c,gJ];rfl
 rw [Zab (by rw [cmpN,if_neg c];split <;> decide),zC,zE,zA,zA,uo.qj,dLen,vw,zB,uo.v22];have hla:(dg 1000000000 d).length<=(dg 1000000000 a).length:=by
  rcases Zdl (dg 1000000000 a).length (dg 1000000000 d).length with q | q
  .have:=wD (b:=1000000000) (by decide) q;omega
  .exact q
 have hld1:1<=(dg 1000000000 d).length:=zhc (by omega);by_cases c1:(dg 1000000000 d).length=1
 .obtain ⟨e1,hdW⟩:=zhd (b:=1000000000) (by decide) c1;rw [Zac (by omega),zD,e1,zA,uo.nk,dIx (l:=[d]) (i:=0) (j:=0) rfl (by simp),dLd (x:=d) rfl];refine zff hd hdW oa.2.1 (by omega) _ _ _ _ ?_;rintro _ rfl _;rw [jK,jJ,oa.1,zA,uo.fQ];have hml:=Zdp a (show 0<d by omega);refine H0.dm (l:=[D (a%d)]) rfl λtb h1 nx1 H1 => ?_;obtain ⟨h2,hkp,H2,hF⟩:=H1.letD (l:=[a%d]) (n:=1) rfl;refine oP hkp (.cons hF .nil) ?_;refine zc9 (Dg.one (by omega)) (by simp) _ _ _ _ ?_;rintro _ rfl _;simp only [zH,zP];rw [uo.ret];exact hK _ _ _ _ _ H2 (uC (zY (kP _)) (zY (kP _))) (by simp [bv])
 exact absurd (by rw [kE (by decide) (by omega),Zek hdN,gJ];rfl) c1
def Z9 (k:Nat) (z:Int):Prop:=z.natAbs<1000000000 ^ k
theorem Z9.len {k:Nat} {z:Int} (h:Z9 k z):(dg 1000000000 z.natAbs).length<=k:=qK (by decide) h
theorem Z9.mono {k m:Nat} {z:Int} (h:Z9 k z) (hkm:k<=m):Z9 m z:=Zcv h (Zcr (by decide) hkm)
theorem Z9.mul {k m:Nat} {a b:Int} (ha:Z9 k a) (hb:Z9 m b):Z9 (k+m) (a*b):=by
 unfold Z9 at *
 rw [Zcf,Zea];exact Zel ha hb
theorem Z9.add {k:Nat} {a b:Int} (ha:Z9 k a) (hb:Z9 k b):Z9 (k+1) (a+b):=by
 unfold Z9 at *
 have h1:=Zec a b;have h2:1000000000 ^ (k+1)=1000000000 ^ k*1000000000:=Zcx ..;omega
theorem zhe {b x y:Nat} (hb:2<=b) (h:x<=y):(dg b x).length<=(dg b y).length:=by
 rcases Zdl (dg b y).length (dg b x).length with q | q
 .have:=wD (b:=b) hb q;omega
 .exact q
theorem zkj {a b:Nat} (hbN:b<1000000000) (ha:S9 a) (hb:S9 b):Pure Tryz.prog B 208 [mq (dg 1000000000 a),mq (dg 1000000000 b)] (· = mq (dg 1000000000 (Nat.gcd a b))):=by
 refine zX λh nx K H0 hK=>zM zO yD (b+100) λhf => ?_;rw [uj.go,uj.t14,zA,uj.zx,zA,zJ];refine uj.t9_L (λm x0 x1 h' nx'=>∃ x y:Nat,x0=mq (dg 1000000000 x)/\x1=mq (dg 1000000000 y)/\m=y/\y<1000000000/\S9 x/\S9 y/\Nat.gcd x y=Nat.gcd a b/\h'=h/\nx'=nx) (m:=b) (by omega) ⟨a,b,rfl,rfl,rfl,hbN,ha,hb,rfl,rfl,rfl⟩ ?_;rintro m z0 z1 z3 z4 h3 nx3 R ⟨x,y,rfl,rfl,rfl,hmN,hx,hy,hg,rfl,rfl⟩ hR;rw [uj.t8,zA,zA,uj.zu,dLen,qm];by_cases c:m=0
 .subst c;rw [Zfw] at hg;rw [gJ,Zab (by simp),zB,uj.v4,zC,yA,yF,zA,uj.mh];simp only [zH,zP];rw [uj.ret,hg];exact hK _ _ _ _ _ H0 (zY (kP _)) rfl
 .have hl:=zhc c;rw [Zac (by omega),zB,uj.v4,zD,zE,zJ,zA,uj.fD];refine zki (by omega) hmN hx hy _ _ _ _ ?_;rintro _ rfl _;have hlt:=Zdp x (show 0<m by omega);rw [jK,jJ,uj.mg];refine hR (x%m) _ _ _ _ _ _ hlt ⟨m,x%m,rfl,rfl,rfl,by omega,hy,Zas (zhe (by decide) (by omega)) hy,?_,rfl,rfl⟩;rw [<- hg,Zev x m,Nat.gcd_rec m x,Zev]
theorem zv6 {a b:Nat} (ha:a<=9223372036854775807) (hb:b<=9223372036854775807):Pure Tryz.prog B 210 [I (a:Int),I (b:Int)] (· = I ((Nat.gcd a b:Nat):Int)):=by
 refine zX λh nx K H0 hK=>zM zO yD (b+100) λhf => ?_;rw [ku.go,ku.t12,zA,ku.zx,zA,zJ];refine ku.t7_L (λm x0 x1 h' nx'=>∃ x y:Nat,x0=I (x:Int)/\x1=I (y:Int)/\m=y/\y<=9223372036854775807/\Nat.gcd x y=Nat.gcd a b/\h'=h/\nx'=nx) (m:=b) (by omega) ⟨a,b,rfl,rfl,rfl,hb,rfl,rfl,rfl⟩ ?_;rintro m z0 z1 z3 h3 nx3 R ⟨x,y,rfl,rfl,rfl,hy,hg,rfl,rfl⟩ hR;rw [ku.t6,zA,zA,ku.zu,qm];by_cases c:m=0
 .subst c;rw [Zfw] at hg;rw [Zab (by omega),zB,ku.v3,zC,yA,yF,zA,ku.nu];simp only [zH,zP];rw [ku.ret,hg];exact hK _ _ _ _ _ H0 (zY rfl) rfl
 .have hlt:=Zdp x (show 0<m by omega);rw [Zac (by omega),zB,ku.v3,zD,zE,zJ,ku.fD,zfe (by omega),show (x:Int).tmod (m:Int)=((x%m:Nat):Int) by rw [Zen (by omega)];simp];refine hR (x%m) _ _ _ _ _ hlt ⟨m,x%m,rfl,rfl,rfl,by omega,?_,rfl,rfl⟩;rw [<- hg,Zev x m,Nat.gcd_rec m x,Zev]
theorem zo7 {z:Int} (hz : -9223372036854775808<=z/\z<=9223372036854775807):Pure Tryz.prog B 134 [I z] (· = refZ z):=by
 refine zX λh nx K H0 hK=>zM zO yD 9223372036854775900 λhf => ?_;have hN:9223372036854775808<9223372036854775900:=by decide
 generalize 9223372036854775900=N at hN ⊢
 rw [yj.go,yj.t25,zA,yj.zx];refine H0.alloc λp h1 nx1 H1 => ?_;rw [zA,yj.zu,zA,yj.je,ji,zA,zJ];refine yj.zwq (λm x0 x2 h' nx'=>∃ (y:Int) (i:Nat) (Z:List Nat) (o:Option Pa),x0=I y/\x2=xq o 1 i/\m=y.natAbs/\m<=9223372036854775808 /\ -9223372036854775808<=y/\y<=9223372036854775807/\Z.length=i/\Dg 1000000000 Z/\bv 1000000000 Z+1000000000 ^ i*m=z.natAbs/\i<=3/\m*1000000000 ^ i<=9223372036854775808/\Hp h h' nx' [.gro o 1 i (Z.map D),.arr p [.bool false,.zb]]) (m:=z.natAbs) (by omega) ⟨z,0,[],none,rfl,rfl,rfl,by omega,hz.1,hz.2,rfl,λ_ h=>by simp at h,by simp [bv],by omega,by simp;omega,H1.zis 1⟩ ?_;rintro m z0 z2 z4 z5 z6 h3 nx3 R ⟨y,i,Z,o,rfl,rfl,rfl,hm,hy1,hy2,hZ,hd,hs,hi3,hb,H3⟩ hR;rw [yj.t17,zA,zA,yj.bq,di];by_cases c:y=0
 .subst c;simp only [Int.natAbs_zero,Nat.mul_zero,Zed] at hs;rw [Zac rfl,Zaj,zB,yj.v5,zC,yA,yF,yj.t21,zA,yj.zdr];obtain ⟨h5,hkp,H5,hF⟩:=H3.zit hZ;refine oP hkp (.cons (.bool _) (.cons hF .nil)) ?_;refine zby hd (by omega) _ _ _ _ ?_;rintro _ rfl _;have e:(if decide (z<0) then -(bv 1000000000 Z:Int) else (bv 1000000000 Z:Int))=z:=by
   rw [hs];by_cases d:z<0
   .rw [Zac d,if_pos rfl];omega
   .rw [Zab d,if_neg (by decide)];omega
  rw [e];refine H5.yx (l2:=[.bool (decide (z<0)),mq (dg 1000000000 z.natAbs)]) (k:=0) rfl rfl rfl λh4 H4 => ?_;simp only [zH,zP];rw [yj.ret,H4.zn (k:=0) (n:=2) rfl rfl];exact hK _ _ _ _ _ H4 dAgg rfl
 .have i2:i<=2:=by
   rcases Zdl 2 i with q | q
   .exfalso
    have e:i=3:=by omega
    subst e;have:1*1000000000 ^ 3<=y.natAbs*1000000000 ^ 3:=Zax _ (by omega);omega
   .exact q
  have et:(y.tmod 1000000000).natAbs=y.natAbs%1000000000:=by rw [Int.natAbs_tmod];rfl
  have eq:(y.tdiv 1000000000).natAbs=y.natAbs / 1000000000:=by rw [Int.natAbs_tdiv];rfl
  have hml:=Zdp y.natAbs (show 0<1000000000 by decide);have hdv:y.natAbs / 1000000000<y.natAbs:=Nat.div_lt_self (by omega) (by decide);have hmd:=Nat.mod_add_div y.natAbs 1000000000;have fin:∀ (z5 z6:AV) (w:Int),w=((y.natAbs%1000000000:Nat):Int)->yj.t13.run (CS Tryz.prog B) N (((fnO yj.res K).blk 0 (yj.t21.run (CS Tryz.prog B) N (fnO yj.res K) (zi yj.res K))).blk 1 R) R (yj.fr (I y) (.ptr p 0) (xq o 1 i) (.bool (decide (z<0))) (I w) z5 z6) h3 nx3=.ok True:=by
   rintro z5 z6 _ rfl;rw [yj.t13,zA,yj.mh];refine H3.zo6 (v:=D (y.natAbs%1000000000)) (by omega) (by decide) rfl rfl λo' h4 n4 H4 => ?_;rw [yj.fB,zfd ⟨hy1,hy2⟩ (by omega)];refine hR _ _ _ _ _ _ _ _ (by rw [eq];exact hdv) ⟨y.tdiv 1000000000,i+1,Z++[y.natAbs%1000000000],o',rfl,rfl,rfl,by omega,by omega,by omega,by simp [hZ],hd.append (Dg.one hml),?_,by omega,?_,by rw [Zbe];exact H4⟩
   .rw [eq,bN,hZ,Zcx,Zcj,Zdv,<- Zdz,hmd];exact hs
   .rw [eq,Zcx,Zbo (1000000000 ^ i),<- Zdv];exact Zas (Zax _ (by omega)) hb
  rw [Zab c,Zao,zB,yj.v5,zD,zE,zJ,zA,yj.qj,zfe (by omega),zA,zA,yj.nk,ji,zB,yj.v6];by_cases d:y.tmod 1000000000<0
  .rw [Zac d,zD,yj.fQ,wz (by omega)];exact fin _ _ _ (by omega)
  .rw [Zab d,zC,zE];exact fin _ _ _ (by omega)
theorem rM (s:List UInt8) {K:AV->OP}:uJ (.str s) K=K (I s.length):=by
 show (ql s.length λn=>K (.int .i64 (.ofNat n)))=_;rw [yH];rfl
theorem tCat {a b:List UInt8} {K:AV->OP} (h:a.length+b.length<=1000000):za .add .str (.str a) (.str b) K=K (.str (a++b)):=by
 show (bif Nat.ble (a.length+b.length) 1000000 then K (.str (a++b)) else .no 5)=_;rw [Zag h];rfl
theorem tSub {s:List UInt8} {a b:Nat} {x y:Int} {K:AV->OP} (hx:x=(a:Int)) (hy:y=(b:Int)) (hab:a<=b) (hb:b<=s.length):jS (.str s) (some (I x)) (some (I y)) K=K (.str ((s.drop a).take (b-a))):=by
 subst hx;subst hy
 show (match bnd (some (I (b:Int))) s.length s.length with
   | none=>Out.no 18
   | some h=>match bnd (some (I (a:Int))) h 0 with
    | none=>.no 18
    | some l=>K (.str ((s.drop l).take (h-l))))=_
 rw [kY hb]
 dsimp only
 rw [kY hab]
theorem dL {s:List UInt8} {a:Nat} {x:Int} {K:AV->OP} (hx:x=(a:Int)) (ha:a<=s.length):jS (.str s) (some (I x)) none K=K (.str (s.drop a)):=by
 subst hx
 show (match bnd (some (I (a:Int))) s.length 0 with
    | none=>Out.no 18
    | some l=>K (.str ((s.drop l).take (s.length-l))))=_
 rw [kY ha]
 dsimp only
 rw [Zap (by rw [Zcc];omega)]
theorem tTo {s:List UInt8} {b:Nat} {y:Int} {K:AV->OP} (hy:y=(b:Int)) (hb:b<=s.length):jS (.str s) none (some (I y)) K=K (.str (s.take b)):=by
 subst hy
 show (match bnd (some (I (b:Int))) s.length s.length with
   | none=>Out.no 18
   | some h=>K (.str ((s.drop 0).take (h-0))))=_
 rw [kY hb];rfl
def dch (x:Nat):UInt8:=UInt8.ofNat (48+x)
def nX (n w:Nat):List Nat:=dg 10 n++List.replicate (w-(dg 10 n).length) 0
def kg (n w:Nat):List UInt8:=(nX n w).reverse.map dch
theorem zrp:∀ n<10,(([48,49,50,51,52,53,54,55,56,57]:List UInt8).drop n).take 1=[dch n]:=by decide +kernel
theorem zbz {y w:Nat} (h:0<y\/0<w):nX y w=y%10::nX (y / 10) (w-1):=by
 unfold nX;rcases Zdy y with e | e
 .subst e;obtain ⟨v,rfl⟩:∃ v,w=v+1:=⟨w-1,by omega⟩;rw [Nat.zero_div,gJ]
  rfl
 .rw [kE (by decide) (by omega),Zbp,Zba,show w-((dg 10 (y / 10)).length+1)=w-1-(dg 10 (y / 10)).length by omega]
theorem zb0:nX 0 0=[]:=by unfold nX;rw [gJ];rfl
theorem zfg {n w:Nat} (hn:n<10 ^ 19) (hw:w<=19):(nX n w).length<=19:=by
 have:=qK (b:=10) (by decide) hn;unfold nX;rw [Zae,Zav];omega
theorem zam {n w:Nat} (hn:n<=9223372036854775807) (hw:w<=19):Pure Tryz.prog B 211 [I (n:Int),I (w:Int)] (· = .str (kg n w)):=by
 refine zX λh nx K H0 hK=>zM zO yD (n+w+10) λhf => ?_;rw [yu.go,yu.t16,zA,yu.zx,zA,yu.zu,zA,zJ];refine yu.zk3 (λm x0 x3 h' nx'=>∃ (y:Nat) (A:List Nat),x0=I (y:Int)/\x3=.str (A.reverse.map dch)/\m=y+(w-A.length)/\y<=9223372036854775807/\nX n w=A++nX y (w-A.length)/\h'=h/\nx'=nx) (m:=n+w) (by omega) ⟨n,[],rfl,rfl,rfl,hn,rfl,rfl,rfl⟩ ?_;rintro m z0 z3 z4 h3 nx3 R ⟨y,A,rfl,rfl,hm,hy,he,rfl,rfl⟩ hR;have hlen:=zfg (n:=n) (w:=w) (by omega) hw;have hAl:A.length<=19:=by
  have:=congrArg List.length he;rw [Zae] at this;omega
 have go:0<y\/0<w-A.length->yu.t3.run (CS Tryz.prog B) (n+w+10) ((fnO yu.res K).blk 0 (yu.t13.run (CS Tryz.prog B) (n+w+10) (fnO yu.res K) (zi yu.res K))) (yu.t8.run (CS Tryz.prog B) (n+w+10) ((fnO yu.res K).blk 0 (yu.t13.run (CS Tryz.prog B) (n+w+10) (fnO yu.res K) (zi yu.res K))) R) (yu.fr (I (y:Int)) (I (w:Int)) (.str []) (.str (A.reverse.map dch)) (.bool true)) h3 nx3=.ok True:=by
  intro hp;have hst:=zbz hp;rw [hst] at he;have e1:(y:Int).tmod 10=((y%10:Nat):Int):=by rw [Zen (by omega)];omega
  have e2:(y:Int).tdiv 10=((y / 10:Nat):Int):=by rw [Int.tdiv_eq_ediv_of_nonneg (by omega)];omega
  have hA1:A.length<=18:=by
   have:=congrArg List.length he;rw [Zae,Zba] at this;omega
  rw [yu.t3,zB,yu.v4,zD,zE,yu.t8,zJ,zA,yu.mg,zfe (by omega),e1,zfe (by omega),e1,gq (by omega),tSub (a:=y%10) (b:=y%10+1) rfl (by omega) (by omega) (by simp;omega),Zbh,zrp _ (Zdp _ (by decide)),tCat (by simp;omega),yu.qj,zfd (by omega) (by omega),e2];refine hR (y / 10+(w-(A.length+1))) _ _ _ _ _ (by omega) ⟨y / 10,A++[y%10],rfl,by simp,by rw [Zae];rfl,by omega,by rw [he,Zbi];simp [Nat.sub_sub],rfl,rfl⟩
 rw [yu.t9,zA,zA,yu.je,yu.r2_0,yu.zuh,qm];by_cases c:0<y
 .rw [Zac (by omega)];simp only [j6,dM,zZ];exact go (.inl c)
 rw [Zab (by omega)];simp only [yJ];rw [rM,ji];simp only [zW];by_cases d:A.length<w
 .rw [Zac (by simp;omega)];exact go (.inr (by omega))
 obtain rfl:y=0:=by omega
 rw [show w-A.length=0 by omega,zb0,Zbj] at he;rw [Zab (by simp;omega),yu.t3,zB,yu.v4,zC,yA,yF,yu.t13,zA,yu.fB];simp only [zH,zP];rw [yu.ret];exact hK _ _ _ _ _ H0 (zY rfl) (by rw [kg,he])
theorem zfh (b:Nat):∀ k,bv b (List.replicate k 0)=0
 | 0=>rfl
 | k+1=>by rw [Zfr,bv,zfh b k];simp
theorem zda (n w:Nat):bv 10 (nX n w)=n:=by
 unfold nX;rw [dH,(xO (b:=10) (by decide) n).1,zfh,Nat.mul_zero,Zed]
theorem vX (n w:Nat):Dg 10 (nX n w):=(xO (b:=10) (by decide) n).2.1.append (Dg.rep (by decide))
theorem pS {n:Nat} (h:n≠0):nX n 1=dg 10 n:=by
 have e:1<=(dg 10 n).length:=by rw [kE (by decide) h];simp
 unfold nX;rw [show 1-(dg 10 n).length=0 by omega];simp
def fF (z:Int):List UInt8:=(if z<0 then [45] else [])++kg z.natAbs 1
theorem vE {n k:Nat} (h:n<1000000000 ^ k):(kg n 1).length<=9*k+1:=by
 have e:1000000000 ^ k=10 ^ (9*k):=by rw [Nat.pow_mul]
 have:=qK (b:=10) (n:=9*k) (by decide) (by rw [<- e];exact h);unfold kg nX;simp;omega
theorem dE:kg 0 1=[48]:=by unfold kg nX;rw [gJ];rfl
theorem aG {s:List UInt8} {i:Nat} {x:Int} {c:UInt8} {K:AV->OP} (hx:x=(i:Int)) (hc:s[i]? = some c):jO (.str s) (I x) K=K (.int .u8 (c.toNat:Int)):=by
 subst hx
 show (match s[i]? with
   | some b=>ql b.toNat λn=>K (.int .u8 (.ofNat n))
   | none=>.no 16)=_
 rw [hc]
 dsimp only
 rw [yH];rfl
theorem ziu {x:Nat} (h:x<10):(dch x).toNat=48+x:=by
 have:∀ x<10,(dch x).toNat=48+x:=by decide +kernel
 exact this x h
theorem zfi {l:List Nat} {i:Nat} (hi:i<l.length):bv 10 (l.take (i+1)).reverse=l.getD i 0+10*bv 10 (l.take i).reverse:=by
 rw [Zau,getD_some hi];simp [bv]
theorem mZ {l:List Nat} (h:Dg 10 l):bv 10 l.reverse<10 ^ l.length:=by
 have:=zbv (b:=10) (l:=l.reverse) (by decide) (λx hx=>h x (by simpa using hx))
 rwa [Zct] at this
theorem zan {l:List Nat} (hd:Dg 10 l) (hl:l.length<=18):Pure Tryz.prog B 209 [.str (l.map dch)] (· = I ((bv 10 l.reverse:Nat):Int)):=by
 refine zX λh nx K H0 hK=>zM zO yD 100 λhf => ?_;rw [gm.go,gm.t18,zA,gm.zx,zA,gm.zu,zA,zA,gm.je,zJ];refine gm.zk4 (λm x2 x3 h' nx'=>∃ i:Nat,x2=I ((bv 10 (l.take i).reverse:Nat):Int)/\x3=I (i:Int)/\m+i=l.length/\h'=h/\nx'=nx) (m:=l.length) (by omega) ⟨0,rfl,rfl,rfl,rfl,rfl⟩ ?_;rintro m z2 z3 z4 h3 nx3 R ⟨i,rfl,rfl,hm,rfl,rfl⟩ hR;rw [gm.t10,zA,zA,gm.bq,rM,Zai,ji];by_cases c:i<l.length
 .have hx:=getD_lt (k:=i) (by decide) hd;have ec:(l.map dch)[i]? = some (dch (l.getD i 0)):=by rw [List.getElem?_map,getD_some c];rfl
  have hb:=mZ (l:=l.take i) hd.take;rw [Zal,Zbn (by omega)] at hb;have hp:10 ^ i<=10 ^ 17:=Zcr (by decide) (by omega);have hs:=zfi c;rw [Zac (by omega),zB,gm.v4,zD,zE,zA,zJ,gm.qj,fE (by omega),aG (i:=i) rfl ec,ziu hx,zc7 (by omega),gq (by omega),wz (by omega),gm.fQ,gq (by omega)];exact hR (m-1) _ _ _ _ _ (by omega) ⟨i+1,by congr 1;omega,rfl,by omega,rfl,rfl⟩
 .rw [Zab (by omega),zB,gm.v4,zC,yA,yF,zA,gm.rJ];simp only [zH,zP];rw [gm.ret];exact hK _ _ _ _ _ H0 (zY rfl) (by rw [Zap (by omega)])
theorem zo8 {l:List Nat} {neg:Bool} (hd:Dg 10 l) (hl1:1<=l.length) (hl:l.length<=900000):Pure Tryz.prog B 205 [.str ((if neg then [45] else [])++l.map dch)] (· = refZ (if neg then -((bv 10 l.reverse:Nat):Int) else ((bv 10 l.reverse:Nat):Int))):=by
 refine zX λh nx K H0 hK=>zM zO yD 1000010 λhf => ?_;rw [yo.go,yo.t23,zA,yo.zx];refine H0.alloc λp h1 nx1 H1 => ?_;have main:∀ x4:AV,yo.t20.run (CS Tryz.prog B) 1000010 (fnO yo.res K) (zi yo.res K) (yo.fr (.str (l.map dch)) (.ptr p 0) (.bool neg) .u x4 .u) h1 nx1=.ok True:=by
  intro x4;rw [yo.t20,zA,yo.qj,zA,zJ];refine yo.zds (λm x0 x3 h' nx'=>∃ (i:Nat) (Z:List Nat) (o:Option Pa),x0=.str ((l.take m).map dch)/\x3=xq o 1 i/\1<=m/\m+9*i=l.length/\Z.length=i/\Dg 1000000000 Z/\bv 1000000000 Z+1000000000 ^ i*bv 10 (l.take m).reverse=bv 10 l.reverse/\Hp h h' nx' [.gro o 1 i (Z.map D),.arr p [.bool false,.zb]]) (m:=l.length) (by omega) ⟨0,[],none,by rw [Zcq],rfl,hl1,rfl,rfl,λ_ h=>by simp at h,by simp [bv],H1.zis 1⟩ ?_;rintro m z0 z3 z5 h3 nx3 R ⟨i,Z,o,rfl,rfl,hm1,hm,hZ,hdZ,hs,H3⟩ hR;have hlm:(l.take m).length=m:=by rw [Zal];omega
  rw [yo.t14,zA,zA,yo.nk,rM,Zai,hlm,qm];by_cases c:9<m
  .have hlt:(l.take m).take (m-9)=l.take (m-9):=by rw [List.take_take,Zbn (by omega)]
   have hpl:((l.take m).drop (m-9)).length=9:=by rw [Zcc];omega
   have hpd:Dg 10 ((l.take m).drop (m-9)):=λx hx=>hd x (Zcp (List.mem_of_mem_drop hx));have hpb:=mZ hpd;rw [hpl] at hpb;have hsp:bv 10 (l.take m).reverse=bv 10 ((l.take m).drop (m-9)).reverse+1000000000*bv 10 (l.take (m-9)).reverse:=by
    have e:l.take m=l.take (m-9)++(l.take m).drop (m-9):=by rw [<- hlt,Zee]
    conv=>lhs;rw [e]
    rw [List.reverse_append,dH,Zct,hpl]
   rw [Zac (by omega),zB,yo.v5,zD,zE,zJ,zA,yo.rH,rM,Zai,hlm,wz (by omega),dL (a:=m-9) (by omega) (by rw [Zai,hlm];omega),<- List.map_drop];refine zan hpd (by omega) _ _ _ _ ?_;rintro _ rfl _;refine H3.zo6 (v:=D (bv 10 ((l.take m).drop (m-9)).reverse)) (by omega) (by decide) rfl rfl λo' h4 n4 H4 => ?_;rw [yo.mh,rM,Zai,hlm,wz (by omega),tTo (b:=m-9) (by omega) (by rw [Zai,hlm];omega),<- Zfc,hlt];refine hR (m-9) _ _ _ _ _ (by omega) ⟨i+1,Z++[bv 10 ((l.take m).drop (m-9)).reverse],o',rfl,rfl,by omega,by omega,by simp [hZ],hdZ.append (Dg.one hpb),?_,by rw [Zbe];exact H4⟩;rw [bN,hZ,Zcx,Zcj,Zdv,<- Zdz,<- hsp];exact hs
  .have hpd:Dg 10 (l.take m):=hd.take;have hpb:=mZ hpd;rw [hlm] at hpb;have hp:10 ^ m<=10 ^ 9:=Zcr (by decide) (by omega);rw [Zab (by omega),zB,yo.v5,zC,yA,yF,zA,yo.nV];refine zan hpd (by omega) _ _ _ _ ?_;rintro _ rfl _;refine H3.zo6 (v:=D (bv 10 (l.take m).reverse)) (by omega) (by decide) rfl rfl λo' h4 n4 H4 => ?_;rw [show Z.map D++[D (bv 10 (l.take m).reverse)]=(Z++[bv 10 (l.take m).reverse]).map D by rw [Zbe];rfl] at H4;obtain ⟨h5,hkp,H5,hF⟩:=H4.zit (by simp [hZ]);refine oP hkp (.cons (.bool _) (.cons hF .nil)) ?_;refine zby (hdZ.append (Dg.one (by omega))) (by simp;omega) _ _ _ _ ?_;rintro _ rfl _;rw [bN,hZ,hs]
   generalize (if neg=true then -((bv 10 l.reverse:Nat):Int) else ((bv 10 l.reverse:Nat):Int))=z at *
   refine H5.yx (l2:=[.bool (decide (z<0)),mq (dg 1000000000 z.natAbs)]) (k:=0) rfl rfl rfl λh6 H6 => ?_;simp only [zH,zP];rw [yo.ret,H6.zn (k:=0) (n:=2) rfl rfl];exact hK _ _ _ _ _ H6 dAgg rfl
 cases neg with
 | true =>
  rw [if_pos rfl,zA,yo.zu,rM,qm,Zac (by simp)];simp only [yL];rw [aG (s:=[45]++l.map dch) (i:=0) (x:=0) (c:=45) rfl rfl,vw];simp only [zZ];rw [show decide (((45:UInt8).toNat:Int)=45)=true from rfl,zA,zA,yo.je,zB,yo.v4,zD,yo.bq,dL (s:=[45]++l.map dch) (a:=1) (x:=1) rfl (by simp)];exact main _
 | false =>
  have ec:(l.map dch)[0]? = some (dch (l.getD 0 0)):=by rw [List.getElem?_map,getD_some (by omega)];rfl
  have hx:=getD_lt (k:=0) (by decide) hd;rw [if_neg (by decide),Zbv,zA,yo.zu,rM,Zai,qm,Zac (by omega)];simp only [yL];rw [aG (i:=0) (x:=0) rfl ec,vw,ziu hx];simp only [zZ];rw [Zab (by omega),zA,zA,yo.je,zB,yo.v4,zC,zE];exact main _
theorem pG {s:List UInt8} {j:Nat} (hl:s.length<=1000000) (hj:j<=s.length) (hb:∀ i c,i<j->s[i]? = some c->c≠47) (he:j=s.length\/s[j]? = some 47):Pure Tryz.prog B 206 [.str s] (· = I (j:Int)):=by
 refine zX λh nx K H0 hK=>zM zO yD 1000010 λhf => ?_;rw [jk.go,jk.t20,zA,jk.zx,zA,zA,jk.zu,zJ];refine jk.zk5 (λm x2 h' nx'=>∃ i:Nat,x2=I (i:Int)/\m+i=j/\h'=h/\nx'=nx) (m:=j) (by omega) ⟨0,rfl,rfl,rfl,rfl⟩ ?_;rintro m z1 z2 z3 z4 h3 nx3 R ⟨i,rfl,hm,rfl,rfl⟩ hR;rw [jk.t13,zA,zA,jk.je,rM,ji];by_cases c:i<s.length
 .have ec:=List.getElem?_eq_getElem c;rw [Zac (by omega),zB,jk.v3,zD,zE,zA,zJ,zA,jk.mg,aG (i:=i) rfl ec,vw,zB,jk.v4];by_cases d:i<j
  .have hn:=hb i _ d ec
   have hn2:¬ ((s[i].toNat:Int)=47):=λq=>hn (by
    have:s[i].toNat=(47:UInt8).toNat:=by
     have e:(47:UInt8).toNat=47:=rfl;omega
    exact UInt8.toNat_inj.1 this)
   rw [Zab hn2,zC,zE,jk.mh,gq (by omega)];exact hR (m-1) _ _ _ _ _ _ (by omega) ⟨i+1,rfl,by omega,rfl,rfl⟩
  .obtain rfl:i=j:=by omega
   have e47:s[i]=47:=by
    rcases he with e | e
    .omega
    .rw [ec] at e;exact Option.some.inj e
   rw [e47,show decide (((47:UInt8).toNat:Int)=47)=true from rfl,zD,zA,jk.qj];simp only [zH,vG,zP];rw [jk.ret];exact hK _ _ _ _ _ H0 (zY rfl) rfl
 .obtain rfl:i=j:=by omega
  rw [Zab (by omega),zB,jk.v3,zC,yA,yF,zA,jk.nV,rM];simp only [zH,zP];rw [jk.ret];exact hK _ _ _ _ _ H0 (zY rfl) (by congr 1;omega)
def qp (q:Rat):List UInt8:=fF q.num++(if q.den=1 then [] else 47::fF (q.den:Int))
theorem zv7 {x:Nat} (h:x<10):dch x≠47:=by
 have:∀ x<10,dch x≠47:=by decide +kernel
 exact this x h
theorem zb1 {z:Int} {c:UInt8} (h:c∈fF z):c≠47:=by
 unfold fF kg at h;rcases List.mem_append.1 h with q | q
 .split at q
  .rw [List.mem_singleton.1 q];decide
  .cases q
 .obtain ⟨x,hx,rfl⟩:=List.mem_map.1 q;exact zv7 (vX _ _ x (by simpa using hx))
theorem zfj {z:Int} {k:Nat} (h:Z9 k z):(fF z).length<=9*k+2:=by
 have:=vE h;unfold fF;rw [Zae];split <;> simp <;> omega
theorem zfk (n:Nat):1<=(nX n 1).length:=by unfold nX;rw [Zae,Zav];omega
theorem zhf {z:Int} {k:Nat} (hk:k<=90000) (hz:Z9 k z):Pure Tryz.prog B 205 [.str (fF z)] (· = refZ z):=by
 have hl:=vE hz;unfold kg at hl;rw [Zai,Zct] at hl;have hp:=zo8 (B:=B) (l:=(nX z.natAbs 1).reverse) (neg:=decide (z<0)) (λx hx=>vX _ _ x (by simpa using hx)) (by rw [Zct];exact zfk _) (by rw [Zct];omega);rw [List.reverse_reverse,zda] at hp;have e1:(if decide (z<0)=true then [45] else [])++(nX z.natAbs 1).reverse.map dch=fF z:=by
  unfold fF kg;by_cases d:z<0
  .rw [if_pos d,if_pos (Zac d)]
  .rw [if_neg d,if_neg (by rw [Zab d];decide)]
 have e2:(if decide (z<0)=true then -((z.natAbs:Nat):Int) else ((z.natAbs:Nat):Int))=z:=by
  by_cases d:z<0
  .rw [if_pos (Zac d)];omega
  .rw [if_neg (by rw [Zab d];decide)];omega
 rw [e1,e2] at hp;exact hp
theorem zo9 {q:Rat} {k:Nat} (hk:k<=40000) (hn:Z9 k q.num) (hd:Z9 k (q.den:Int)):Pure Tryz.prog B 129 [.str (qp q)] (· = .tup [refZ q.num,refZ (q.den:Int)]):=by
 refine zX λh nx K H0 hK=>zM zO yD 100 λhf => ?_;have l1:=zfj hn;have l2:=zfj hd;rw [uw.go,uw.t13,zA,uw.zx];refine H0.alloc λp1 h1 nx1 H1 => ?_;refine H1.alloc λp2 h2 nx2 H2 => ?_;rw [zA,uw.zu,zA,uw.je];by_cases c:q.den=1
 .have e:qp q=fF q.num:=by unfold qp;rw [if_pos c,Zbj]
  rw [e];refine pG (j:=(fF q.num).length) (by omega) (by omega) (λi c _ hc=>zb1 (Zad hc)) (.inl rfl) _ _ _ _ ?_;rintro _ rfl _;rw [zA,zA,uw.bq,rM,vw,Zac rfl,zB,uw.v5,zD,zA,uw.fD];refine zhf (by omega) hn _ _ _ _ ?_;rintro _ rfl _;refine zo7 (by omega) _ _ _ _ ?_;rintro _ rfl _;refine H2.yx (l2:=[.bool (decide (q.num<0)),mq (dg 1000000000 q.num.natAbs)]) (k:=1) rfl rfl rfl λh3 H3 => ?_;refine H3.yx (l2:=[.bool (decide ((1:Int)<0)),mq (dg 1000000000 (1:Int).natAbs)]) (k:=0) rfl rfl rfl λh4 H4 => ?_;simp only [zH,zP];rw [uw.ret,H4.zn (k:=1) (n:=2) rfl rfl,H4.zn (k:=0) (n:=2) rfl rfl];exact hK _ _ _ _ _ H4 (uC dAgg dAgg) (by rw [c];rfl)
 .have e:qp q=fF q.num++47::fF (q.den:Int):=by unfold qp;rw [if_neg c]
  have el:(qp q).length=(fF q.num).length+((fF (q.den:Int)).length+1):=by rw [e,Zae,Zba]
  have et:(qp q).take (fF q.num).length=fF q.num:=by rw [e,Zdr];rfl
  have ed:(qp q).drop ((fF q.num).length+1)=fF (q.den:Int):=by rw [e,<- Zeg,Zes];rfl;rfl
  refine pG (j:=(fF q.num).length) (by omega) (by omega) (λi c hi hc => ?_) (.inr ?_) _ _ _ _ ?_
  .rw [e,List.getElem?_append_left hi] at hc;exact zb1 (Zad hc)
  .rw [e,List.getElem?_append_right (Zaf _),Zcd];rfl
  rintro _ rfl _;rw [zA,zA,uw.bq,rM,vw,Zab (by omega),zB,uw.v5,zC,zE,zA,uw.fQ,tTo (b:=(fF q.num).length) rfl (by omega),et,gq (by omega),dL (a:=(fF q.num).length+1) (by omega) (by omega),ed];refine zhf (by omega) hn _ _ _ _ ?_;rintro _ rfl _;rw [dL (a:=(fF q.num).length+1) (by omega) (by omega),ed,zF,gq (by omega)];simp only [zF];refine zhf (by omega) hd _ _ _ _ ?_;rintro _ rfl _;refine H2.yx (l2:=[.bool (decide (q.num<0)),mq (dg 1000000000 q.num.natAbs)]) (k:=1) rfl rfl rfl λh3 H3 => ?_;refine H3.yx (l2:=[.bool (decide ((q.den:Int)<0)),mq (dg 1000000000 (q.den:Int).natAbs)]) (k:=0) rfl rfl rfl λh4 H4 => ?_;simp only [zH,zP];rw [uw.ret,H4.zn (k:=1) (n:=2) rfl rfl,H4.zn (k:=0) (n:=2) rfl rfl];exact hK _ _ _ _ _ H4 (uC dAgg dAgg) rfl
def fU (q:Rat):List UInt8:=kg q.num.natAbs 1++(if q.den=1 then [] else 47::kg q.den 1)
theorem pQ (q:Rat):qp q=(if q.num<0 then [45] else [])++fU q:=by
 unfold qp fU fF;rw [Zbi,if_neg (show ¬ ((q.den:Int)<0) by omega),Zbv,Zbr]
theorem qY (n:Nat):1<=(kg n 1).length:=by unfold kg;rw [Zai,Zct];exact zfk n
theorem dF {n:Nat} {c:UInt8} (h:c∈kg n 1):c≠47/\c≠45:=by
 unfold kg at h;obtain ⟨x,hx,rfl⟩:=List.mem_map.1 h;have hx10:=vX n 1 x (by simpa using hx);have:∀ x<10,dch x≠47/\dch x≠45:=by decide +kernel
 exact this x hx10
theorem zpa {n:Nat} (hl:(kg n 1).length<=18):Pure Tryz.prog B 209 [.str (kg n 1)] (· = I (n:Int)):=by
 have hl2:=hl;unfold kg at hl2;rw [Zai] at hl2;have:=zan (B:=B) (l:=(nX n 1).reverse) (λx hx=>vX _ _ x (by simpa using hx)) hl2;rw [List.reverse_reverse,zda] at this;exact this
theorem ziv {n k:Nat} (hl:(kg n 1).length<=k):n<10 ^ k:=by
 have e:(nX n 1).length<=k:=by unfold kg at hl;simpa using hl
 have:=zbv (b:=10) (by decide) (vX n 1);rw [zda] at this;exact Zcv this (Zcr (by decide) e)
theorem zfl {q:Rat} (hq1:q.num.natAbs<1000000000) (hq2:q.den<1000000000):Pure Tryz.prog B 127 [.str (qp q)] (· = .tup [I q.num,I (q.den:Int),.bool true]):=by
 refine zX λh nx K H0 hK=>zM zO yD 100 λhf => ?_;have w9:∀ {n:Nat},n<1000000000->(kg n 1).length<=9:=λ{n} h=>by
  have:=qK (b:=10) (z:=n) (n:=9) (by decide) h;unfold kg nX;rw [Zai,Zct,Zae,Zav];omega
 have h9n:=w9 hq1;have h9d:=w9 hq2;have hcut:qp q=(if q.num<0 then [45] else [])++fU q:=pQ q;have hd1:=qY q.num.natAbs;have hbl:(fU q).length=(kg q.num.natAbs 1).length+(if q.den=1 then [] else 47::kg q.den 1).length:=by rw [fU,Zae]
 have hb19:(fU q).length<=(kg q.num.natAbs 1).length+10:=by rw [hbl];split <;> simp;omega
 have hr20:(qp q).length<=20:=by rw [hcut,Zae];split <;> simp <;> omega
 rw [zm.go,zm.t38,zA,zm.zx,zA,zm.zu,zA,zA,zm.je,rM,qm,zB,zm.v9];rw [Zab (by omega),zC,zE];have main:∀ x10:AV,zm.t33.run (CS Tryz.prog B) 100 (fnO zm.res K) (zi zm.res K) (zm.fr (.str (qp q)) (I 0) (I 0) (.bool false) (.str (fU q)) (.bool (decide (q.num<0))) .u .u .u (.bool false) x10 .u .u .u) h nx=.ok True:=by
  intro x10;have zzn:∀ i c,i<(kg q.num.natAbs 1).length->(fU q)[i]? = some c->c≠47:=λi c hi hc=>by
   rw [fU,List.getElem?_append_left hi] at hc;exact (dF (Zad hc)).1
  have hat:(kg q.num.natAbs 1).length=(fU q).length\/(fU q)[(kg q.num.natAbs 1).length]? = some 47:=by
   by_cases c:q.den=1
   .rw [if_pos c] at hbl;exact .inl (by simpa using hbl.symm)
   .right
    rw [fU,if_neg c,List.getElem?_append_right (Zaf _),Zcd];rfl
  have ht:(fU q).take (kg q.num.natAbs 1).length=kg q.num.natAbs 1:=by rw [fU,Zdr];rfl
  rw [zm.t33,zA,zm.fB];refine pG (j:=(kg q.num.natAbs 1).length) (by omega) (by omega) zzn hat _ _ _ _ ?_;rintro _ rfl _;rw [zA,zA,zm.fK,zm.r8_0,zm.zui,qm];rw [Zab (by omega)];simp only [yJ];rw [rM,wz (by omega),qm,zm.r8_1,zm.zuj];simp only [zW];rw [zB,zm.v11];rw [Zab (by omega),zC,zE,zA,zm.aP,tTo (b:=(kg q.num.natAbs 1).length) rfl (by omega),ht];refine zpa (by omega) _ _ _ _ ?_;rintro _ rfl _;have fin:∀ x12:AV,zm.t29.run (CS Tryz.prog B) 100 (fnO zm.res K) (zi zm.res K) (zm.fr (.str (qp q)) (I 0) (I 0) (.bool false) (.str (fU q)) (.bool (decide (q.num<0))) (I ((kg q.num.natAbs 1).length:Int)) (I (q.num.natAbs:Int)) (I (q.den:Int)) (.bool false) x10 (.bool false) x12 .u) h nx=.ok True:=by
   intro x12;rw [zm.t29,zA,zA,zm.zdu,zB,zm.v13];by_cases d:q.num<0
   .rw [Zac d,zD,zm.aQ,wz (by omega),zA,zm.zhy];simp only [zH,zP];rw [zm.ret];exact hK _ _ _ _ _ H0 (ze0 (.int _ _) (.int _ _) (.bool _)) (by rw [show (0:Int)-(q.num.natAbs:Int)=q.num by omega])
   .rw [Zab d,zC,zE,zA,zm.zhy];simp only [zH,zP];rw [zm.ret];exact hK _ _ _ _ _ H0 (ze0 (.int _ _) (.int _ _) (.bool _)) (by rw [show ((q.num.natAbs:Nat):Int)=q.num by omega])
  rw [zA,zA,zm.nQ,rM,ji,zB,zm.v12];by_cases c:q.den=1
  .rw [if_pos c,Zeq,Zed] at hbl;rw [Zab (by omega),zC,zE];have:=fin (.bool false);rw [c] at this;exact this
  .rw [if_neg c,Zba] at hbl;have ed:(fU q).drop ((kg q.num.natAbs 1).length+1)=kg q.den 1:=by rw [fU,if_neg c,<- Zeg,Zes];rfl;rfl
   rw [Zac (by omega),zD,zm.zdr,gq (by omega),dL (a:=(kg q.num.natAbs 1).length+1) (by omega) (by omega),ed];refine zpa (by omega) _ _ _ _ ?_;rintro _ rfl _;exact fin _
 by_cases d:q.num<0
 .rw [if_pos d] at hcut;have e0:(qp q)[0]? = some 45:=by rw [hcut];rfl
  have el:(qp q).length=(fU q).length+1:=by rw [hcut];rfl
  have ed:(qp q).drop 1=fU q:=by rw [hcut];rfl
  rw [zA,zm.nk,rM,qm,Zac (by omega)];simp only [yL];rw [aG (i:=0) (x:=0) rfl e0,vw];simp only [zZ];rw [show decide (((45:UInt8).toNat:Int)=45)=true from rfl,zA,zA,zm.fQ,zB,zm.v10,zD,zm.nu,dL (a:=1) (x:=1) rfl (by omega),ed];have:=main (.bool true);rw [Zac d] at this;exact this
 .rw [if_neg d,Zbv] at hcut;obtain ⟨c0',hc0⟩:∃ c,(kg q.num.natAbs 1)[0]? = some c:=⟨_,List.getElem?_eq_getElem (by omega)⟩;have e0:(qp q)[0]? = some c0':=by rw [hcut,fU,List.getElem?_append_left (by omega),hc0]
  have hne:=(dF (Zad hc0)).2
  have hne2:¬ ((c0'.toNat:Int)=45):=λh=>hne (by
   have e:(45:UInt8).toNat=45:=rfl;have:c0'.toNat=(45:UInt8).toNat:=by omega
   exact UInt8.toNat_inj.1 this)
  rw [zA,zm.nk,rM,qm,Zac (by rw [hcut];omega)];simp only [yL];rw [aG (i:=0) (x:=0) rfl e0,vw];simp only [zZ];rw [Zab hne2,zA,zA,zm.fQ,zB,zm.v10,zC,zE];have:=main (.bool false);rw [Zab d] at this;rw [<- hcut] at this;exact this
def fA (z:Int):Prop := -9223372036854775807<=z/\z<=9223372036854775807
def vk (s w:AV) (z:Int):Prop:=s=I z/\w=.zb/\fA z
def qh (v:AV) (z:Int):Prop:=∃ s w,v=.agg [s,w]/\vk s w z
theorem uZ {N:Pa->Prop} {O:AV->Prop} {hh:T Blk} {l:List AV} (h:∀ v∈l,fw v=true):Frz True N O hh (.agg l) (.agg l) :=
 .agg _ _ rfl (List.all_eq_true.2 λv hv=>fw.uz (h v hv)) λi v v' h1 h2=>by rw [h1] at h2;cases h2;exact zY (h v (Zad h1))
theorem vk.fix {s w:AV} {z:Int} (h:vk s w z):∀ v∈[s,w],fw v=true:=by
 intro v hv;simp only [Zan,List.not_mem_nil,or_false] at hv;obtain ⟨rfl,rfl,_⟩:=h;rcases hv with rfl | rfl <;> rfl
theorem qh.frz {v:AV} {z:Int} (h:qh v z) {N:Pa->Prop} {O:AV->Prop} {hh:T Blk}:Frz True N O hh v v:=by
 obtain ⟨s,w,rfl,h⟩:=h;exact uZ h.fix
theorem yT {z:Int} (h:fA z):qh (.agg [I z,.zb]) z:=⟨_,_,rfl,rfl,rfl,h⟩
theorem kB {K:AV->OP}:za .eql (.nil .sl) .zb .zb K=K (.bool true):=nr rfl
theorem zpb {K:AV->OP}:za .neq (.nil .sl) .zb .zb K=K (.bool false):=nr rfl
theorem zv8 {a b:Bool} {K:AV->OP}:za .eql .bool (.bool a) (.bool b) K=K (.bool (a==b)):=by cases a <;> cases b <;> exact nr rfl
theorem zhg {a b:Bool} {K:AV->OP}:za .neq .bool (.bool a) (.bool b) K=K (.bool (a != b)):=by cases a <;> cases b <;> exact nr rfl
theorem uM {z:Int} {K:AV->OP}:gF [(I 0),.zb] [(0,1,I z)] K=K (.agg [I z,.zb]):=nr rfl
theorem zpc {z:Int} (h:fA z):Pure Tryz.prog B 187 [I z] (λv=>qh v z):=by
 refine zX λhh nx K H0 hK=>zM zO yD 100 λhf => ?_;rw [bf.go,bf.t3,zA,bf.zx];refine H0.alloc λp h1 nx1 H1 => ?_;rw [zA,bf.zu,uM];refine H1.yx (l2:=[I z,.zb]) (k:=0) rfl rfl rfl λh4 H4 => ?_;simp only [zH,zP];rw [bf.ret,H4.zn (k:=0) (n:=2) rfl rfl];exact hK _ _ _ _ _ H4 (yT h).frz (yT h)
def kM (z:Int):Int:=if z<0 then -1 else if 0<z then 1 else 0
theorem zrq {z:Int} {K:AV->OP}:sMin false (I 1) [I z] K=K (I (if z<1 then z else 1)):=by
 have e:sMin false (I 1) [I z] K=K (I (bif ilt z 1 then z else 1)):=nr rfl;rw [e,wI];by_cases c:z<1
 .rw [if_pos c,Zac c];rfl
 .rw [if_neg c,Zab c];rfl
theorem zrr {z:Int} {K:AV->OP}:sMin true (I (-1)) [I z] K=K (I (if -1<z then z else -1)):=by
 have e:sMin true (I (-1)) [I z] K=K (I (bif ilt (-1) z then z else -1)):=nr rfl;rw [e,wI];by_cases c : -1<z
 .rw [if_pos c,Zac c];rfl
 .rw [if_neg c,Zab c];rfl
theorem vO {v:AV} {z:Int} (hv:qh v z):Pure Tryz.prog B 194 [v] (· = I (kM z)):=by
 obtain ⟨s,w,rfl,rfl,rfl,hv⟩:=hv;refine zX λh nx K H0 hK=>zM zO yD 100 λhf => ?_;rw [bT.go,bT.t3,zA,bT.zx];refine H0.box (l:=[I z,.zb]) rfl λpa h1 nx1 H1 => ?_;have hn:(if -1<(if z<1 then z else 1) then (if z<1 then z else 1) else -1)=kM z:=by
  unfold kM
  (repeat' split) <;> omega
 rw [zA,bT.zu,sFx,H1.load (k:=0) (i:=0+0) rfl rfl,zrq,zrr,hn];simp only [zH,zP];rw [bT.ret];exact hK _ _ _ _ _ H1 (zY rfl) rfl
theorem wR {v:AV} {z:Int} (hv:qh v z):Pure Tryz.prog B 193 [v] (λv=>qh v (-z)):=by
 obtain ⟨s,w,rfl,rfl,rfl,hv⟩:=hv;unfold fA at hv;refine zX λh nx K H0 hK=>zM zO yD 100 λhf => ?_;rw [dw.go,dw.t11,zA,dw.zx];refine H0.box (l:=[I z,.zb]) rfl λpa h1 nx1 H1 => ?_;refine H1.alloc λp h2 nx2 H2 => ?_;rw [zA,zA,dw.zu,sFx,H2.load (k:=1) (i:=0+1) (v:=.zb) rfl rfl,kB];simp only [yL];rw [sFx,H2.load (k:=1) (i:=0+0) rfl rfl,di,zZ,zB,dw.v5,Zab (by omega),Zao,zD,zA,dw.je,sFx,H2.load (k:=1) (i:=0+0) rfl rfl,uNeg (by omega),uM];refine H2.yx (l2:=[I (-z),.zb]) (k:=0) rfl rfl rfl λh4 H4 => ?_;simp only [zH,zP];rw [dw.ret,H4.zn (k:=0) (n:=2) rfl rfl];exact hK _ _ _ _ _ H4 (yT (by unfold fA;omega)).frz (yT (by unfold fA;omega))
theorem zhh {a b:Int} {K:AV->OP}:za .add .int (I a) (I b) K=K (I (IntKind.wrap .i64 (a+b))):=ztb
theorem zfm {a b:Int} (ha : -9223372036854775808<=a/\a<=9223372036854775807) (hb : -9223372036854775808<=b/\b<=9223372036854775807) :
  (decide (a<IntKind.wrap .i64 (a+b))==decide (0<b))=true↔(-9223372036854775808<=a+b/\a+b<=9223372036854775807):=by
 have e:∀ z:Int,IntKind.wrap .i64 z=(z+9223372036854775808)%18446744073709551616-9223372036854775808:=by
  intro z;rw [IntKind.wrap_i64] <;> omega
 rw [e];by_cases c:0<b
 .rw [Zac c];by_cases d:a+b<=9223372036854775807
  .rw [Zac (by omega)];simp;omega
  .rw [Zab (by omega)];simp;omega
 .rw [Zab c];by_cases d : -9223372036854775808<=a+b
  .rw [Zab (by omega)];simp;omega
  .rw [Zac (by omega)];simp;omega
theorem ziw {va vb:AV} {a b:Int} (hva:qh va a) (hvb:qh vb b) (hs:fA (a+b)):Pure Tryz.prog B 197 [va,vb] (λv=>qh v (a+b)):=by
 obtain ⟨s,w,rfl,rfl,rfl,hva⟩:=hva;obtain ⟨s',w',rfl,rfl,rfl,hvb⟩:=hvb;unfold fA at hva hvb;have hs':=hs;unfold fA at hs';refine zX λh nx K H0 hK=>zM zO yD 100 λhf => ?_;rw [qg.go,qg.t30,zA,qg.zx];refine H0.box (l:=[I a,.zb]) rfl λpa h1 nx1 H1 => ?_;refine H1.box (l:=[I b,.zb]) rfl λpb h2 nx2 H2 => ?_;refine H2.alloc λp h3 nx3 H3 => ?_;rw [zA,zA,qg.zu,sFx,H3.load (k:=2) (i:=0+1) (v:=.zb) rfl rfl,kB];simp only [yL];rw [sFx,H3.load (k:=1) (i:=0+1) (v:=.zb) rfl rfl,kB,zZ,zB,qg.v10,zD,zA,qg.je,sFx,H3.load (k:=2) (i:=0+0) rfl rfl,sFx,H3.load (k:=1) (i:=0+0) rfl rfl,zhh,zA,qg.bq,sFx,H3.load (k:=2) (i:=0+0) rfl rfl,qm,sFx,H3.load (k:=1) (i:=0+0) rfl rfl,qm,zv8,zB,qg.v11];have hw : -9223372036854775808<=a+b/\a+b<=9223372036854775807:=by omega
 rw [(zfm (a:=a) (b:=b) (by omega) (by omega)).2 hw,zD,zA,qg.fD,qI hw,uM];simp only [zH,zP];refine H3.yx (l2:=[I (a+b),.zb]) (k:=0) rfl rfl rfl λh4 H4 => ?_;rw [qg.ret,H4.zn (k:=0) (n:=2) rfl rfl];exact hK _ _ _ _ _ H4 (yT hs).frz (yT hs)
theorem xY {va vb:AV} {a b:Int} (hva:qh va a) (hvb:qh vb b) (hs:fA (a*b)):Pure Tryz.prog B 198 [va,vb] (λv=>qh v (a*b)):=by
 obtain ⟨s,w,rfl,rfl,rfl,hva⟩:=hva;obtain ⟨s',w',rfl,rfl,rfl,hvb⟩:=hvb;unfold fA at hva hvb;have hs':=hs;unfold fA at hs';have hab:a.natAbs*b.natAbs<=9223372036854775807:=by rw [<- Zcf];omega
 refine zX λh nx K H0 hK=>zM zO yD 100 λhf => ?_;rw [gy.go,gy.t24,zA,gy.zx];refine H0.box (l:=[I a,.zb]) rfl λpa h1 nx1 H1 => ?_;refine H1.box (l:=[I b,.zb]) rfl λpb h2 nx2 H2 => ?_;refine H2.alloc λp h3 nx3 H3 => ?_;have hsgn:(if (decide (a<0) != decide (b<0))=true then -((a.natAbs*b.natAbs:Nat):Int) else ((a.natAbs*b.natAbs:Nat):Int))=a*b:=by
  rw [<- Zcf];by_cases c1:a<0 <;> by_cases c2:b<0
  .rw [Zac c1,Zac c2,if_neg (by decide)];have:=Zdt (show a<=0 by omega) (show b<=0 by omega);omega
  .rw [Zac c1,Zab c2,if_pos (by decide)];have:=Int.mul_nonpos_of_nonpos_of_nonneg (show a<=0 by omega) (show 0<=b by omega);omega
  .rw [Zab c1,Zac c2,if_pos (by decide)];have:=Int.mul_nonpos_of_nonneg_of_nonpos (show 0<=a by omega) (show b<=0 by omega);omega
  .rw [Zab c1,Zab c2,if_neg (by decide)];have:=Int.mul_nonneg (show 0<=a by omega) (show 0<=b by omega);omega
 have ret:∀ {h4 nx4 z} {x0 x1 x2 x3 x5 x6 x7 x8 x9 x10 x11 x12 x13:AV},Hp h h4 nx4 [.arr p [I 0,.zb],.arr pb [I b,.zb],.arr pa [I a,.zb]]->z=a*b->(zT 2 (.ptr p 0) (.agg [I z,.zb]) h4 nx4 λv2 h3 n4=>zi gy.res K (gy.fr x0 x1 x2 x3 (.ptr p 0) x5 x6 x7 x8 x9 x10 x11 x12 x13) h3 n4)=.ok True:=λH e=>by
  subst e;refine H.yx (l2:=[I (a*b),.zb]) (k:=0) rfl rfl rfl λh4 H4 => ?_;rw [gy.ret,H4.zn (k:=0) (n:=2) rfl rfl];exact hK _ _ _ _ _ H4 (yT hs).frz (yT hs)
 rw [zA,zA,gy.zu,sFx,H3.load (k:=2) (i:=0+1) (v:=.zb) rfl rfl,kB];simp only [yL];rw [sFx,H3.load (k:=1) (i:=0+1) (v:=.zb) rfl rfl,kB,zZ,zB,gy.v11,zD,zA,gy.je,sFx,H3.load (k:=2) (i:=0+0) rfl rfl,sFx,H3.load (k:=1) (i:=0+0) rfl rfl];refine zc8 (by omega) _ _ _ _ ?_;rintro _ rfl _;rw [H3.load (k:=1) (i:=0+0) rfl rfl,zF,sFx,zF];refine zc8 (by omega) _ _ _ _ ?_;rintro _ rfl _;refine zv1 (by omega) (by omega) _ _ _ _ ?_;rintro _ rfl _;rw [jK,jJ,zA,gy.bq,zzj,Zac (Zek (by omega))];simp only [yL];rw [Zca (by omega),show (AV.int .u64 9223372036854775807)=U 9223372036854775807 from rfl,uLeq,zZ,zB,gy.v12];rw [Zac hab,zD,zA,zA,gy.fD,sFx,H3.load (k:=2) (i:=0+0) rfl rfl,ji,sFx,H3.load (k:=1) (i:=0+0) rfl rfl,ji,zhg,zB,gy.v13];by_cases c:(decide (a<0) != decide (b<0))=true
 .rw [if_pos c] at hsgn;rw [c,zD,zA,gy.mg,zc7 (by omega),uNeg (by omega),uM];simp only [zH,zP];exact ret H3 hsgn
 .rw [if_neg c] at hsgn;rw [show (decide (a<0) != decide (b<0))=false by simpa using c,zC,zE,zA,gy.nu,zc7 (by omega),uM];simp only [zH,zP];exact ret H3 hsgn
theorem zrs {a b:Int} {K:AV->OP} (ha : -9223372036854775808<=a/\a<=9223372036854775807) (hb:1<=b):za .quo .int (I a) (I b) K=K (I (a.tdiv b)):=by
 have e:za .quo .int (I a) (I b) K=(bif ieq b 0 then Out.no 5 else qb (IntKind.i64.wrap (a.tdiv b)) λz=>K (.int .i64 z)):=rfl;have h0:ieq b 0=false:=by rw [wJ];exact Zab (by omega)
 rw [e,h0,cond_false,jI,Go.IntWalk.i64_quo' a b ⟨ha.1,ha.2,hb⟩]
theorem zrt {a b:Int} {K:AV->OP} (hb:1<=b):za .rem .int (I a) (I b) K=K (I (a.tmod b)):=by
 have e:za .rem .int (I a) (I b) K=(bif ieq b 0 then Out.no 5 else qb (a.tmod b) λz=>K (.int .i64 z)):=rfl;have h0:ieq b 0=false:=by rw [wJ];exact Zab (by omega)
 rw [e,h0,cond_false,jI]
theorem zao {a b q r:Int} (hb:0<b) (h:a=q*b+r) (h0:0<=r) (h1:r<b):a / b=q/\a%b=r:=by
 subst h;refine ⟨?_,?_⟩
 .rw [Int.add_comm,Int.add_mul_ediv_right _ _ (by omega),Int.ediv_eq_zero_of_lt h0 h1,Int.zero_add]
 .rw [Int.add_comm,Int.add_mul_emod_self_right,Int.emod_eq_of_lt h0 h1]
theorem zdb {a b:Int} (hb:1<=b):(a.tmod b<0->a / b=a.tdiv b-1/\a%b=a.tmod b+b /\ -b<a.tmod b)/\(0<=a.tmod b->a / b=a.tdiv b/\a%b=a.tmod b):=by
 have e:=Int.mul_tdiv_add_tmod a b;have h1:=Zfx a (show 0<b by omega);have h2 : -b<a.tmod b:=by
  have:=Zfx (-a) (show 0<b by omega);rw [Int.neg_tmod] at this;omega
 rw [Int.mul_comm] at e;refine ⟨λh => ?_,λh=>zao (by omega) e.symm h h1⟩;obtain ⟨c1,c2⟩:=zao (a:=a) (b:=b) (q:=a.tdiv b-1) (r:=a.tmod b+b) (by omega) (by rw [Int.sub_mul];omega) (by omega) (by omega);exact ⟨c1,c2,h2⟩
theorem zkk {a b:Int} (ha : -9223372036854775807<=a) (hb:1<=b) : -9223372036854775807<=a / b:=by
 refine (Int.le_ediv_iff_mul_le (by omega)).2 ?_;have:=Int.mul_le_mul_of_nonneg_left hb (show (0:Int)<=9223372036854775807 by omega);omega
theorem bD {va vb:AV} {a b:Int} (hva:qh va a) (hvb:qh vb b) (hb:1<=b):Pure Tryz.prog B 201 [va,vb] (λv=>∃ v1 v2,v=.tup [v1,v2]/\qh v1 (a / b)/\qh v2 (a%b)):=by
 obtain ⟨s,w,rfl,rfl,rfl,hva⟩:=hva;obtain ⟨s',w',rfl,rfl,rfl,hvb⟩:=hvb;unfold fA at hva hvb;refine zX λh nx K H0 hK=>zM zO yD 100 λhf => ?_;rw [jr.go,jr.t29,zA,jr.zx];refine H0.box (l:=[I a,.zb]) rfl λpa h1 nx1 H1 => ?_;refine H1.box (l:=[I b,.zb]) rfl λpb h2 nx2 H2 => ?_;refine H2.alloc λp h3 nx3 H3 => ?_;refine H3.alloc λq h4 nx4 H4 => ?_;rw [zA,zA,jr.zu,jr.nR,jr.nS,sFx,H4.load (k:=3) (i:=0+1) (v:=.zb) rfl rfl,kB];simp only [yL];rw [sFx,H4.load (k:=2) (i:=0+1) (v:=.zb) rfl rfl,kB,zZ,jr.rO,jr.fT];simp only [yL];rw [sFx,H4.load (k:=3) (i:=0+0) rfl rfl,di,zZ,zB,jr.v15];rw [Zab (by omega),Zao,zD,zA,jr.je,sFx,H4.load (k:=3) (i:=0+0) rfl rfl,sFx,H4.load (k:=2) (i:=0+0) rfl rfl,zrs (by omega) hb,sFx,H4.load (k:=3) (i:=0+0) rfl rfl,sFx,H4.load (k:=2) (i:=0+0) rfl rfl,zrt hb,zA,zA,jr.bq,ji,zB,jr.v16];obtain ⟨f1,f2⟩:=zdb (a:=a) hb;have hq2 : -9223372036854775807<=a.tdiv b/\a.tdiv b<=9223372036854775807:=by
  have:=Int.natAbs_tdiv_le_natAbs a b;omega
 have hmod:=Int.emod_nonneg a (show b≠0 by omega);have hmod2:=Int.emod_lt_of_pos a (show 0<b by omega);have hrt:=Int.mul_tdiv_add_tmod a b;have hr1 : -b<a.tmod b:=by
  by_cases cr:a.tmod b<0
  .exact (f1 cr).2.2
  .omega
 have hr2:=Zfx a (show 0<b by omega);have hqm : -9223372036854775807<=a / b:=zkk (by omega) hb;by_cases cr:a.tmod b<0
 .obtain ⟨g1,g2,g3⟩:=f1 cr;rw [Zac cr,zD,jr.fD,wz (by omega),sFx,H4.load (k:=2) (i:=0+0) rfl rfl,gq (by omega),zA,jr.nk,uM,uM];simp only [zH,zP];refine H4.yx (l2:=[I (a.tdiv b-1),.zb]) (k:=1) rfl rfl rfl λh6 H6 => ?_;refine H6.yx (l2:=[I (a.tmod b+b),.zb]) (k:=0) rfl rfl rfl λh7 H7 => ?_;rw [jr.ret,H7.zn (k:=1) (n:=2) rfl rfl,H7.zn (k:=0) (n:=2) rfl rfl];exact hK _ _ _ _ _ H7 (uC (yT (by unfold fA;omega)).frz (yT (by unfold fA;omega)).frz) ⟨_,_,rfl,by rw [g1];exact yT (by unfold fA;omega),by rw [g2];exact yT (by unfold fA;omega)⟩
 .obtain ⟨g1,g2⟩:=f2 (by omega);rw [Zab cr,zC,zE,zA,jr.nk,uM,uM];simp only [zH,zP];refine H4.yx (l2:=[I (a.tdiv b),.zb]) (k:=1) rfl rfl rfl λh6 H6 => ?_;refine H6.yx (l2:=[I (a.tmod b),.zb]) (k:=0) rfl rfl rfl λh7 H7 => ?_;rw [jr.ret,H7.zn (k:=1) (n:=2) rfl rfl,H7.zn (k:=0) (n:=2) rfl rfl];exact hK _ _ _ _ _ H7 (uC (yT (by unfold fA;omega)).frz (yT (by unfold fA;omega)).frz) ⟨_,_,rfl,by rw [g1];exact yT (by unfold fA;omega),by rw [g2];exact yT (by unfold fA;omega)⟩
theorem zix {va vb:AV} {a b c:Int} (hva:qh va a) (hvb:qh vb b) (hb:b≠0) (hc:a=c*b):Pure Tryz.prog B 259 [va,vb] (λv=>qh v c):=by
 have hva0:=hva;have hvb0:=hvb;obtain ⟨s,w,rfl,hva⟩:=hva;obtain ⟨s',w',rfl,hvb⟩:=hvb;refine zX λh nx K H0 hK=>zM zO yD 100 λhf => ?_;rw [kz.go,kz.t10,zA,kz.zx];refine H0.box (l:=[s,w]) rfl λpa h1 nx1 H1 => ?_;refine H1.box (l:=[s',w']) rfl λpb h2 nx2 H2 => ?_;refine H2.alloc λp h3 nx3 H3 => ?_
 have tail:∀ {h5:T Blk} {nx5:Pa} {s1 w1 s2 w2:AV} {a' b':Int} {x5 x6:AV},Hp h h5 nx5 [.arr p [I 0,.zb],.arr pb [s2,w2],.arr pa [s1,w1]]->vk s1 w1 a'->vk s2 w2 b'->1<=b'->a'=c*b' ->
   IR.run kz.t8 (CS Tryz.prog B) 100 (fnO kz.res K) (zi kz.res K) (kz.fr (.agg [s,w]) (.agg [s',w']) (.ptr pa 0) (.ptr pb 0) (.ptr p 0) x5 x6) h5 nx5=.ok True:=by
  intro h5 nx5 s1 w1 s2 w2 a' b' x5 x6 H i1 i2 hb' e;rw [kz.t8,zA,kz.mg,H.zn (k:=2) (n:=2) rfl rfl,H.zn (k:=1) (n:=2) rfl rfl];refine bD ⟨_,_,rfl,i1⟩ ⟨_,_,rfl,i2⟩ hb' _ _ _ _ ?_;rintro _ ⟨v1,v2,rfl,⟨s3,w3,rfl,i3⟩,⟨s4,w4,rfl,i4⟩⟩ _;rw [jK,jJ];refine H.alloc λp1 h6 nx6 H6 => ?_;refine H6.alloc λq1 h7 nx7 H7 => ?_;refine H7.yx (l2:=[s3,w3]) (k:=1) rfl rfl rfl λh8 H8 => ?_;refine H8.yx (l2:=[s4,w4]) (k:=0) rfl rfl rfl λh9 H9 => ?_;rw [zA,kz.qj,H9.zn (k:=1) (n:=2) rfl rfl];refine H9.yx (l2:=[s3,w3]) (k:=2) rfl rfl rfl λh10 H10 => ?_;simp only [zH,zP];rw [kz.ret,H10.zn (k:=2) (n:=2) rfl rfl];have:a' / b'=c:=by rw [e];exact Int.mul_ediv_cancel _ (by omega)
  rw [this] at i3;exact hK _ _ _ _ _ H10 (uZ i3.fix) ⟨_,_,rfl,i3⟩
 rw [zA,zA,kz.zu,H3.zn (k:=1) (n:=2) rfl rfl];refine vO hvb0 _ _ _ _ ?_;rintro _ rfl _;rw [ji,zB,kz.v6];by_cases cb:b<0
 .rw [Zac (by unfold kM;rw [if_pos cb];decide),zD,kz.je,H3.zn (k:=2) (n:=2) rfl rfl,H3.zn (k:=1) (n:=2) rfl rfl];refine wR hva0 _ _ _ _ ?_;rintro _ ⟨s3,w3,rfl,i3⟩ _;rw [H3.zn (k:=1) (n:=2) rfl rfl,zF];refine wR hvb0 _ _ _ _ ?_;rintro _ ⟨s4,w4,rfl,i4⟩ _;refine H3.yx (l2:=[s3,w3]) (k:=2) rfl rfl rfl λh8 H8 => ?_;refine H8.yx (l2:=[s4,w4]) (k:=1) rfl rfl rfl λh9 H9 => ?_;exact tail H9 i3 i4 (by omega) (by rw [hc,Int.mul_neg])
 .rw [Zab (by unfold kM;rw [if_neg cb];split <;> decide),zC,zE];exact tail H3 hva hvb (by omega) hc
theorem vk.sgn {s w:AV} {z:Int} (h:vk s w z):∃ n,s=I n/\(n<0↔z<0):=by
 obtain ⟨rfl,_⟩:=h;exact ⟨_,rfl,Iff.rfl⟩
theorem zfn {v:AV} {z:Int} (hv:qh v z):Pure Tryz.prog B 299 [v] (λv=>qh v (z.natAbs:Int)):=by
 have hv0:=hv;obtain ⟨s,w,rfl,hv⟩:=hv;obtain ⟨n,rfl,hn⟩:=hv.sgn;refine zX λh nx K H0 hK=>zM zO yD 100 λhf => ?_;rw [xw.go,xw.t9,zA,xw.zx];refine H0.box (l:=[I n,w]) rfl λpa h1 nx1 H1 => ?_;refine H1.alloc λp h2 nx2 H2 => ?_;rw [zA,zA,xw.zu,sFx,H2.load (k:=1) (i:=0+0) rfl rfl,ji,zB,xw.v3];by_cases c:n<0
 .rw [Zac c,zD,zA,xw.je,H2.zn (k:=1) (n:=2) rfl rfl];refine wR hv0 _ _ _ _ ?_;rintro _ ⟨s',w',rfl,hc⟩ _;refine H2.yx (l2:=[s',w']) (k:=0) rfl rfl rfl λh4 H4 => ?_;simp only [zH,zP];rw [xw.ret,H4.zn (k:=0) (n:=2) rfl rfl];have:=hn.1 c;rw [show -z=(z.natAbs:Int) by omega] at hc;exact hK _ _ _ _ _ H4 (uZ hc.fix) ⟨_,_,rfl,hc⟩
 .rw [Zab c,zC,zE,zA,xw.qj,H2.zn (k:=1) (n:=2) rfl rfl];refine H2.yx (l2:=[I n,w]) (k:=0) rfl rfl rfl λh4 H4 => ?_;simp only [zH,zP];rw [xw.ret,H4.zn (k:=0) (n:=2) rfl rfl];have:¬ z<0:=λq=>c (hn.2 q);rw [show z=(z.natAbs:Int) by omega] at hv;exact hK _ _ _ _ _ H4 (uZ hv.fix) ⟨_,_,rfl,hv⟩
theorem zpd {va vb:AV} {a b:Int} (hva:qh va a) (hvb:qh vb b):Pure Tryz.prog B 258 [va,vb] (λv=>qh v (Int.gcd a b:Int)):=by
 have hva0:=hva;have hvb0:=hvb;obtain ⟨s,w,rfl,hva⟩:=hva;obtain ⟨s',w',rfl,hvb⟩:=hvb;refine zX λh nx K H0 hK=>zM zO yD (b.natAbs+100) λhf => ?_;rw [uf.go,uf.t16,zA,uf.zx];refine H0.box (l:=[s,w]) rfl λpa h1 nx1 H1 => ?_;refine H1.box (l:=[s',w']) rfl λpb h2 nx2 H2 => ?_;refine H2.alloc λp h3 nx3 H3 => ?_;rw [zA,uf.zu,H3.zn (k:=2) (n:=2) rfl rfl,H3.zn (k:=1) (n:=2) rfl rfl];refine zfn hva0 _ _ _ _ ?_;rintro _ ⟨s1,w1,rfl,i1⟩ _;rw [H3.zn (k:=1) (n:=2) rfl rfl,zF];refine zfn hvb0 _ _ _ _ ?_;rintro _ ⟨s2,w2,rfl,i2⟩ _;refine H3.yx (l2:=[s1,w1]) (k:=2) rfl rfl rfl λh4 H4 => ?_;refine H4.yx (l2:=[s2,w2]) (k:=1) rfl rfl rfl λh5 H5 => ?_;rw [zA,zJ];refine uf.zk3 (λm h' nx'=>∃ (x y:Nat) (s1 w1 s2 w2:AV),vk s1 w1 (x:Int)/\vk s2 w2 (y:Int)/\m=y/\Nat.gcd x y=Int.gcd a b/\Hp h h' nx' [.arr p [I 0,.zb],.arr pb [s2,w2],.arr pa [s1,w1]]) (m:=b.natAbs) (by omega) ⟨a.natAbs,b.natAbs,s1,w1,s2,w2,i1,i2,rfl,rfl,H5⟩ ?_;rintro m z5 z6 h6 nx6 R ⟨x,y,s1,w1,s2,w2,i1,i2,rfl,hg,H6⟩ hR;rw [uf.t9,zA,zA,uf.je,H6.zn (k:=1) (n:=2) rfl rfl];refine vO ⟨_,_,rfl,i2⟩ _ _ _ _ ?_;rintro _ rfl _;rw [di,zB,uf.v6];by_cases c:m=0
 .subst c;rw [Zac (by rfl),Zaj,zC,yA,yF,zA,uf.fB,H6.zn (k:=2) (n:=2) rfl rfl];refine H6.yx (l2:=[s1,w1]) (k:=0) rfl rfl rfl λh7 H7 => ?_;simp only [zH,zP];rw [uf.ret,H7.zn (k:=0) (n:=2) rfl rfl];rw [Zfw] at hg;rw [hg] at i1;exact hK _ _ _ _ _ H7 (uZ i1.fix) ⟨_,_,rfl,i1⟩
 .have hs:kM (m:Int)=1:=by unfold kM;rw [if_neg (by omega),if_pos (by omega)]
  rw [hs,Zab (by decide),Zao,zD,zE,zJ,zA,uf.mg,H6.zn (k:=2) (n:=2) rfl rfl,H6.zn (k:=1) (n:=2) rfl rfl];refine bD ⟨_,_,rfl,i1⟩ ⟨_,_,rfl,i2⟩ (by omega) _ _ _ _ ?_;rintro _ ⟨v1,v2,rfl,⟨s3,w3,rfl,i3⟩,⟨s4,w4,rfl,i4⟩⟩ _;rw [jK,jJ];refine H6.alloc λp1 h7 nx7 H7 => ?_;refine H7.alloc λq1 h8 nx8 H8 => ?_;refine H8.yx (l2:=[s3,w3]) (k:=1) rfl rfl rfl λh9 H9 => ?_;refine H9.yx (l2:=[s4,w4]) (k:=0) rfl rfl rfl λh10 H10 => ?_;rw [uf.qj,H10.zn (k:=3) (n:=2) rfl rfl,H10.zn (k:=0) (n:=2) rfl rfl];refine H10.yx (l2:=[s2,w2]) (k:=4) rfl rfl rfl λh11 H11 => ?_;rw [H11.zn (k:=0) (n:=2) rfl rfl,zF];refine H11.yx (l2:=[s4,w4]) (k:=3) rfl rfl rfl λh12 H12 => ?_;rw [<- Int.natCast_emod] at i4;have hlt:=Zdp x (show 0<m by omega);refine hR (x%m) _ _ _ _ hlt ⟨m,x%m,s2,w2,s4,w4,i2,i4,rfl,?_,H12.drop.drop⟩;rw [<- hg,Zev x m,Nat.gcd_rec m x,Zev]
theorem vk.two {s w:AV} {z:Int} (h:vk s w z):s=I z/\w=.zb/\fA z/\∀ K:AV->OP,za .eql (.nil .sl) w .zb K=K (.bool true):=by
 obtain ⟨rfl,rfl,h⟩:=h;exact ⟨rfl,rfl,h,λ_=>kB⟩
theorem xR {a b:Int} {M N:Nat} (ha:a.natAbs<=M) (hb:b.natAbs<=N) (h:M*N<=9223372036854775807):fA (a*b):=by
 have:=Zbg ha hb;rw [<- Zcf] at this;unfold fA;omega
theorem zfo {a b:Int} {M:Nat} (ha:a.natAbs<=M) (hb:b.natAbs<=M) (h:2*M<=9223372036854775807):fA (a+b):=by unfold fA;omega
def xg (M:Nat) (q:Rat):Prop:=q.num.natAbs<=M/\q.den<=M
theorem xg.mono {M N:Nat} {q:Rat} (h:xg M q) (hN:M<=N):xg N q:=⟨Zas h.1 hN,Zas h.2 hN⟩
theorem xg.neg {M:Nat} {q:Rat} (h:xg M q):xg M (-q):=⟨by rw [Zft,Zei];exact h.1,by rw [Rat.neg_den];exact h.2⟩
theorem wH {t:T AV} {l:List AV} {off n:Nat} (h:yS t 0 l.length=l) (hle:off+n<=l.length):yS t off n=(l.drop off).take n:=by
 apply Zbq;intro i;by_cases hi:i<n
 .rw [yG _ _ _ _ hi,List.getElem?_take_of_lt hi,List.getElem?_drop];have:=yG t 0 l.length (off+i) (by omega);rw [h,Zbd] at this;exact this.symm
 .rw [List.getElem?_eq_none (by rw [uG];omega),List.getElem?_eq_none (by simp;omega)]
theorem Hp.gu {h0 h:T Blk} {nx:Pa} {L:List Ob} {k n off:Nat} {id:Pa} {l l2:List AV} {op:AV->OP} (H:Hp h0 h nx L) (hk:L[k]? = some (.arr id l)) (hle:off+n<=l.length) (he:(l.drop off).take n=l2):zG n (.ptr id off) h op=op (.agg l2):=by
 obtain ⟨o,t,h1,h2⟩:=H.own _ (Zad hk);show uy (T.get .no id h) (λ_ m t=>bif Nat.ble (off+n) m then op (.agg (yS t off n)) else .no 8) (.no 9)=_;rw [h1];show (bif Nat.ble (off+n) l.length then op (.agg (yS t off n)) else .no 8)=_;rw [Zag hle,cond_true,wH h2 hle,he]
def jE (v:AV) (q:Rat):Prop:=∃ s w s' w',v=.agg [s,w,s',w']/\vk s w q.num/\vk s' w' (q.den:Int)
theorem vk.ay {s w s' w':AV} {a b:Int} (h:vk s w a) (h':vk s' w' b):∀ v∈[s,w,s',w'],fw v=true:=by
 intro v hv;rcases List.mem_cons.1 hv with rfl | hv
 .exact h.fix _ (by simp)
 rcases List.mem_cons.1 hv with rfl | hv
 .exact h.fix _ (by simp)
 exact h'.fix _ hv
theorem vk.build {s w s' w':AV} {a b:Int} (h:vk s w a) (h':vk s' w' b) {K:AV->OP}:gF [(I 0),.zb,(I 0),.zb] [(0,2,.agg [s,w]),(2,2,.agg [s',w'])] K=K (.agg [s,w,s',w']):=nr rfl
theorem vB {v:AV} {q:Rat} (hv:jE v q):Pure Tryz.prog B 122 [v] (· = .bool (decide (q.den=1))):=by
 obtain ⟨s,w,s',w',rfl,h1,h2⟩:=hv;refine zX λh nx K H0 hK=>zM zO yD 100 λhf => ?_;rw [xk.go,xk.t3,zA,xk.zx];refine H0.box (l:=[s,w,s',w']) rfl λpa h1 nx1 H1 => ?_;rw [zA,xk.zu,xk.nR,xk.nS,sFx,sFx,H1.load (k:=0) (i:=0+2+1) (v:=w') rfl rfl];obtain ⟨rfl,rfl,_,e2⟩:=h2.two;rw [e2];simp only [yL];rw [sFx,sFx,H1.load (k:=0) (i:=0+2+0) rfl rfl,xk.rO,xk.fT];simp only [yL];rw [vw];simp only [zZ];simp only [zH,zP];rw [xk.ret];exact hK _ _ _ _ _ H1 (zY rfl) (by congr 1;exact decide_eq_decide.2 (by omega))
theorem qF {n d:Int} (hd:0<d):(Rat.divInt n d).num=n / (Int.gcd n d:Int)/\((Rat.divInt n d).den:Int)=d / (Int.gcd n d:Int):=by
 refine ⟨?_,?_⟩
 .rw [Rat.num_divInt,Int.sign_eq_one_of_pos hd,Int.one_mul,Int.gcd_comm]
 .rw [Rat.den_divInt,if_neg (by omega),Int.gcd_comm,Int.natCast_ediv]
  congr 1
  omega
theorem zb2 {z:Int}:((z:Rat)).num=z/\(((z:Rat)).den:Int)=1:=⟨Zfl z,by rw [Rat.den_intCast];rfl⟩
theorem zaq {v:AV} {z:Int} (hv:qh v z):Pure Tryz.prog B 186 [v] (λv=>jE v (z:Rat)):=by
 obtain ⟨s,w,rfl,hv⟩:=hv;refine zX λh nx K H0 hK=>zM zO yD 100 λhf => ?_;rw [bg.go,bg.t3,zA,bg.zx];refine H0.box (l:=[s,w]) rfl λpa h1 nx1 H1 => ?_;refine H1.alloc λp h2 nx2 H2 => ?_;rw [zA,bg.zu,H2.zn (k:=1) (n:=2) rfl rfl];refine zpc (by unfold fA;omega) _ _ _ _ ?_;rintro _ ⟨s',w',rfl,h'⟩ _;rw [H2.zn (k:=1) (n:=2) rfl rfl,zF,hv.build h'];refine H2.yx (l2:=[s,w,s',w']) (k:=0) rfl rfl rfl λh4 H4 => ?_;simp only [zH,zP];rw [bg.ret,H4.zn (k:=0) (n:=4) rfl rfl];exact hK _ _ _ _ _ H4 (uZ (hv.ay h')) ⟨_,_,_,_,rfl,by rw [zb2.1];exact hv,by rw [zb2.2];exact h'⟩
theorem zb3 {z:Int} (h:fA z):Pure Tryz.prog B 96 [I z] (λv=>jE v (z:Rat)):=by
 refine zX λhh nx K H0 hK=>zM zO yD 100 λhf => ?_;rw [F96.go,F96.t3,zA,F96.zx];refine H0.alloc λp h2 nx2 H2 => ?_;rw [zA,F96.zu];refine zpc h _ _ _ _ ?_;intro v hv _;refine zaq hv _ _ _ _ ?_;rintro _ ⟨s,w,s',w',rfl,i1,i2⟩ _;refine H2.yx (l2:=[s,w,s',w']) (k:=0) rfl rfl rfl λh4 H4 => ?_;simp only [zH,zP];rw [F96.ret,H4.zn (k:=0) (n:=4) rfl rfl];exact hK _ _ _ _ _ H4 (uZ (i1.ay i2)) ⟨_,_,_,_,rfl,i1,i2⟩
theorem mT {va vb:AV} {a b:Int} (hva:qh va a) (hvb:qh vb b) (hb:b≠0):Pure Tryz.prog B 195 [va,vb] (λv=>jE v (Rat.divInt a b)):=by
 have hva0:=hva;have hvb0:=hvb;obtain ⟨s,w,rfl,hva⟩:=hva;obtain ⟨s',w',rfl,hvb⟩:=hvb;refine zX λh nx K H0 hK=>zM zO yD 100 λhf => ?_;rw [jl.go,jl.t16,zA,jl.zx];refine H0.box (l:=[s,w]) rfl λpa h1 nx1 H1 => ?_;refine H1.box (l:=[s',w']) rfl λpb h2 nx2 H2 => ?_;refine H2.alloc λp h3 nx3 H3 => ?_
 have tail:∀ {h5:T Blk} {nx5:Pa} {s1 w1 s2 w2:AV} {a' b':Int} {x5 x6 x7:AV},Hp h h5 nx5 [.arr p [I 0,.zb,I 0,.zb],.arr pb [s2,w2],.arr pa [s1,w1]]->vk s1 w1 a'->vk s2 w2 b'->1<=b'->Rat.divInt a' b'=Rat.divInt a b ->
   IR.run jl.t14 (CS Tryz.prog B) 100 (fnO jl.res K) (zi jl.res K) (jl.fr (.agg [s,w]) (.agg [s',w']) (.ptr pa 0) (.ptr pb 0) (.ptr p 0) x5 x6 x7) h5 nx5=.ok True:=by
  intro h5 nx5 s1 w1 s2 w2 a' b' x5 x6 x7 H i1 i2 hb' e;obtain ⟨d1,d2⟩:=qF (n:=a') (show 0<b' by omega);have general:∀ {x5 x6 x7:AV},IR.run jl.t13 (CS Tryz.prog B) 100 (fnO jl.res K) (zi jl.res K) (jl.fr (.agg [s,w]) (.agg [s',w']) (.ptr pa 0) (.ptr pb 0) (.ptr p 0) x5 x6 x7) h5 nx5=.ok True:=by
   intro x5 x6 x7;rw [jl.t13,zA,jl.rH,H.zn (k:=2) (n:=2) rfl rfl,H.zn (k:=1) (n:=2) rfl rfl];refine zpd ⟨_,_,rfl,i1⟩ ⟨_,_,rfl,i2⟩ _ _ _ _ ?_;rintro _ ⟨s3,w3,rfl,i3⟩ _;have g0:0<Int.gcd a' b':=Int.gcd_pos_of_ne_zero_right _ (by omega);refine H.alloc λp1 h6 nx6 H6 => ?_;refine H6.yx (l2:=[s3,w3]) (k:=0) rfl rfl rfl λh7 H7 => ?_;rw [zA,jl.mh,H7.zn (k:=3) (n:=2) rfl rfl,H7.zn (k:=0) (n:=2) rfl rfl,H7.zn (k:=2) (n:=2) rfl rfl,H7.zn (k:=0) (n:=2) rfl rfl];refine zix (c:=a' / (Int.gcd a' b':Int)) ⟨_,_,rfl,i1⟩ ⟨_,_,rfl,i3⟩  (by omega) (Int.ediv_mul_cancel (Zfg ..)).symm _ _ _ _ ?_;rintro _ ⟨s4,w4,rfl,i4⟩ _;rw [H7.zn (k:=0) (n:=2) rfl rfl,zF,H7.zn (k:=2) (n:=2) rfl rfl,zF];refine zix (c:=b' / (Int.gcd a' b':Int)) ⟨_,_,rfl,i2⟩ ⟨_,_,rfl,i3⟩  (by omega) (Int.ediv_mul_cancel (Zfa ..)).symm _ _ _ _ ?_;rintro _ ⟨s5,w5,rfl,i5⟩ _;rw [i4.build i5];refine H7.yx (l2:=[s4,w4,s5,w5]) (k:=1) rfl rfl rfl λh8 H8 => ?_;simp only [zH,zP];rw [jl.ret,H8.zn (k:=1) (n:=4) rfl rfl];exact hK _ _ _ _ _ H8 (uZ (i4.ay i5)) ⟨_,_,_,_,rfl,by rw [<- e,d1];exact i4,by rw [<- e,d2];exact i5⟩
  rw [jl.t14,zA,zA,jl.mg,sFx,H.load (k:=1) (i:=0+1) (v:=w2) rfl rfl];obtain ⟨rfl,rfl,_,e2⟩:=i2.two
  .rw [e2];simp only [yL];rw [sFx,H.load (k:=1) (i:=0+0) rfl rfl,vw,zZ,zB,jl.v7];by_cases c:b'=1
   .subst c;rw [Zac rfl,zD,zA,jl.qj,H.zn (k:=2) (n:=2) rfl rfl,H.zn (k:=1) (n:=2) rfl rfl,i1.build i2];refine H.yx (l2:=[s1,w1,I 1,.zb]) (k:=0) rfl rfl rfl λh8 H8 => ?_;simp only [zH,zP];rw [jl.ret,H8.zn (k:=0) (n:=4) rfl rfl];rw [Int.gcd_one] at d1 d2;exact hK _ _ _ _ _ H8 (uZ (i1.ay i2)) ⟨_,_,_,_,rfl,by rw [<- e,d1];simpa using i1,by rw [<- e,d2];simpa using i2⟩
   .rw [Zab c,zC,zE];exact general
 rw [zA,zA,jl.zu,H3.zn (k:=1) (n:=2) rfl rfl];refine vO hvb0 _ _ _ _ ?_;rintro _ rfl _;rw [ji,zB,jl.v6];by_cases cb:b<0
 .rw [Zac (by unfold kM;rw [if_pos cb];decide),zD,jl.je,H3.zn (k:=2) (n:=2) rfl rfl,H3.zn (k:=1) (n:=2) rfl rfl];refine wR hva0 _ _ _ _ ?_;rintro _ ⟨s3,w3,rfl,i3⟩ _;rw [H3.zn (k:=1) (n:=2) rfl rfl,zF];refine wR hvb0 _ _ _ _ ?_;rintro _ ⟨s4,w4,rfl,i4⟩ _;refine H3.yx (l2:=[s3,w3]) (k:=2) rfl rfl rfl λh8 H8 => ?_;refine H8.yx (l2:=[s4,w4]) (k:=1) rfl rfl rfl λh9 H9 => ?_;exact tail H9 i3 i4 (by omega) (Rat.neg_divInt_neg ..)
 .rw [Zab (by unfold kM;rw [if_neg cb];split <;> decide),zC,zE];exact tail H3 hva hvb (by omega) rfl
theorem zar (op:KW3->OP) (h:T Blk) (nx:Pa) (k:KW3):sGW (.bool true) true op h nx k=op k:=nr rfl
theorem dT (op:KW3->OP) (h:T Blk) (nx:Pa) (k:KW3):sGW (.bool false) true op h nx k=k .u h nx:=nr rfl
theorem qQ (q:Rat):Rat.divInt q.num (q.den:Int)=q:=Rat.num_divInt_den q
theorem u3 (q:Rat):(q.den:Int)≠0:=by have:=q.den_nz;omega
theorem zkl (a b:Rat):Rat.divInt (a.num*b.num) ((a.den:Int)*(b.den:Int))=a*b:=by
 rw [<- Rat.divInt_mul_divInt,qQ,qQ]
theorem zb4 (a b:Rat):Rat.divInt (a.num*(b.den:Int)+b.num*(a.den:Int)) ((a.den:Int)*(b.den:Int))=a+b:=by
 rw [<- Rat.divInt_add_divInt _ _ (u3 a) (u3 b),qQ,qQ]
theorem m8 {q:Rat} (h:q.den=1):((q.num:Int):Rat)=q:=Rat.ext (Zfl _) (by rw [Rat.den_intCast,h])
theorem fH {z:Int}:kM z=0↔z=0:=by unfold kM;split <;> (try split) <;> constructor <;> intro <;> omega
theorem dB {v:AV} {q:Rat} (hv:jE v q):Pure Tryz.prog B 110 [v] (· = I (kM q.num)):=by
 obtain ⟨s,w,s',w',rfl,i1,i2⟩:=hv;refine zX λh nx K H0 hK=>zM zO yD 100 λhf => ?_;rw [bU.go,bU.t3,zA,bU.zx];refine H0.box (l:=[s,w,s',w']) rfl λpa h1 nx1 H1 => ?_;rw [zA,bU.zu,sFx,H1.gu (k:=0) (l2:=[s,w]) rfl (by simp) rfl];refine vO ⟨_,_,rfl,i1⟩ _ _ _ _ ?_;rintro _ rfl _;simp only [zH,zP];rw [bU.ret];exact hK _ _ _ _ _ H1 (zY rfl) rfl
theorem mX {v:AV} {q:Rat} (hv:jE v q):Pure Tryz.prog B 107 [v] (λv=>jE v (-q)):=by
 obtain ⟨s,w,s',w',rfl,i1,i2⟩:=hv;refine zX λh nx K H0 hK=>zM zO yD 100 λhf => ?_;rw [bV.go,bV.t3,zA,bV.zx];refine H0.box (l:=[s,w,s',w']) rfl λpa h1 nx1 H1 => ?_;refine H1.alloc λp h2 nx2 H2 => ?_;have ln:∀ op:AV->OP,zG 2 (.ptr pa (0+0)) h2 op=op (.agg [s,w]):=λop=>H2.gu (k:=1) rfl (by simp) rfl;have ld:∀ op:AV->OP,zG 2 (.ptr pa (0+2)) h2 op=op (.agg [s',w']):=λop=>H2.gu (k:=1) rfl (by simp) rfl;rw [zA,bV.zu,sFx,ln,sFx,ld];refine wR ⟨_,_,rfl,i1⟩ _ _ _ _ ?_;rintro _ ⟨s3,w3,rfl,i3⟩ _;rw [ld,zF,sFx,zF,i3.build i2];refine H2.yx (l2:=[s3,w3,s',w']) (k:=0) rfl rfl rfl λh4 H4 => ?_;simp only [zH,zP];rw [bV.ret,H4.zn (k:=0) (n:=4) rfl rfl];exact hK _ _ _ _ _ H4 (uZ (i3.ay i2)) ⟨_,_,_,_,rfl,by rw [Zft];exact i3,by rw [Rat.neg_den];exact i2⟩
theorem zb5 {v:AV} {q:Rat} (hv:jE v q) (h0:q≠0):Pure Tryz.prog B 112 [v] (λv=>jE v q⁻¹):=by
 obtain ⟨s,w,s',w',rfl,i1,i2⟩:=hv;refine zX λh nx K H0 hK=>zM zO yD 100 λhf => ?_;rw [bW.go,bW.t3,zA,bW.zx];refine H0.box (l:=[s,w,s',w']) rfl λpa h1 nx1 H1 => ?_;refine H1.alloc λp h2 nx2 H2 => ?_;have ln:∀ op:AV->OP,zG 2 (.ptr pa (0+0)) h2 op=op (.agg [s,w]):=λop=>H2.gu (k:=1) rfl (by simp) rfl;have ld:∀ op:AV->OP,zG 2 (.ptr pa (0+2)) h2 op=op (.agg [s',w']):=λop=>H2.gu (k:=1) rfl (by simp) rfl;rw [zA,bW.zu,sFx,ld,sFx,ln];refine mT ⟨_,_,rfl,i2⟩ ⟨_,_,rfl,i1⟩ (λe=>h0 (Rat.num_eq_zero.1 e)) _ _ _ _ ?_;rintro _ ⟨s3,w3,s4,w4,rfl,i3,i4⟩ _;refine H2.yx (l2:=[s3,w3,s4,w4]) (k:=0) rfl rfl rfl λh4 H4 => ?_;simp only [zH,zP];rw [bW.ret,H4.zn (k:=0) (n:=4) rfl rfl];rw [<- Rat.inv_def] at i3 i4;exact hK _ _ _ _ _ H4 (uZ (i3.ay i4)) ⟨_,_,_,_,rfl,i3,i4⟩
theorem zfp {va vb:AV} {a b:Rat} {M N:Nat} (hva:jE va a) (hvb:jE vb b) (ha:xg M a) (hb:xg N b) (h:M*N<=9223372036854775807):Pure Tryz.prog B 119 [va,vb] (λv=>jE v (a*b)):=by
 obtain ⟨s,w,s',w',rfl,i1,i2⟩:=hva;obtain ⟨t,u,t',u',rfl,j1,j2⟩:=hvb;refine zX λhh nx K H0 hK=>zM zO yD 100 λhf => ?_;rw [bX.go,bX.t3,zA,bX.zx];refine H0.box (l:=[s,w,s',w']) rfl λpa h1 nx1 H1 => ?_;refine H1.box (l:=[t,u,t',u']) rfl λpb h2 nx2 H2 => ?_;refine H2.alloc λp h3 nx3 H3 => ?_;have an:∀ op:AV->OP,zG 2 (.ptr pa (0+0)) h3 op=op (.agg [s,w]):=λop=>H3.gu (k:=2) rfl (by simp) rfl;have ad:∀ op:AV->OP,zG 2 (.ptr pa (0+2)) h3 op=op (.agg [s',w']):=λop=>H3.gu (k:=2) rfl (by simp) rfl;have bn:∀ op:AV->OP,zG 2 (.ptr pb (0+0)) h3 op=op (.agg [t,u]):=λop=>H3.gu (k:=1) rfl (by simp) rfl;have bd:∀ op:AV->OP,zG 2 (.ptr pb (0+2)) h3 op=op (.agg [t',u']):=λop=>H3.gu (k:=1) rfl (by simp) rfl;rw [zA,bX.zu,sFx,an,sFx,bn,sFx,ad,sFx,bd];refine xY ⟨_,_,rfl,i1⟩ ⟨_,_,rfl,j1⟩ (xR ha.1 hb.1 h) _ _ _ _ ?_;intro v1 hv1 _;rw [bd,zF,sFx,zF,ad,zF,sFx,zF];refine xY ⟨_,_,rfl,i2⟩ ⟨_,_,rfl,j2⟩ (xR (M:=M) (N:=N) ha.2 hb.2 h) _ _ _ _ ?_;intro v2 hv2 _;refine mT hv1 hv2 (Int.mul_ne_zero (u3 a) (u3 b)) _ _ _ _ ?_;rintro _ ⟨s3,w3,s4,w4,rfl,i3,i4⟩ _;refine H3.yx (l2:=[s3,w3,s4,w4]) (k:=0) rfl rfl rfl λh4 H4 => ?_;simp only [zH,zP];rw [bX.ret,H4.zn (k:=0) (n:=4) rfl rfl];rw [zkl] at i3 i4;exact hK _ _ _ _ _ H4 (uZ (i3.ay i4)) ⟨_,_,_,_,rfl,i3,i4⟩
theorem zpe {va vb:AV} {a b:Rat} {M N:Nat} (hva:jE va a) (hvb:jE vb b) (ha:xg M a) (hb:xg N b) (h:2*(M*N)<=9223372036854775807):Pure Tryz.prog B 114 [va,vb] (λv=>jE v (a+b)):=by
 have hva0:=hva;have hvb0:=hvb;obtain ⟨s,w,s',w',rfl,i1,i2⟩:=hva;obtain ⟨t,u,t',u',rfl,j1,j2⟩:=hvb;refine zX λhh nx K H0 hK=>zM zO yD 100 λhf => ?_;rw [qi.go,qi.t9,zA,qi.zx];refine H0.box (l:=[s,w,s',w']) rfl λpa h1 nx1 H1 => ?_;refine H1.box (l:=[t,u,t',u']) rfl λpb h2 nx2 H2 => ?_;refine H2.alloc λp h3 nx3 H3 => ?_;have an:∀ op:AV->OP,zG 2 (.ptr pa (0+0)) h3 op=op (.agg [s,w]):=λop=>H3.gu (k:=2) rfl (by simp) rfl;have ad:∀ op:AV->OP,zG 2 (.ptr pa (0+2)) h3 op=op (.agg [s',w']):=λop=>H3.gu (k:=2) rfl (by simp) rfl;have bn:∀ op:AV->OP,zG 2 (.ptr pb (0+0)) h3 op=op (.agg [t,u]):=λop=>H3.gu (k:=1) rfl (by simp) rfl;have bd:∀ op:AV->OP,zG 2 (.ptr pb (0+2)) h3 op=op (.agg [t',u']):=λop=>H3.gu (k:=1) rfl (by simp) rfl;have general:∀ {x5:AV},IR.run qi.t7 (CS Tryz.prog B) 100 (fnO qi.res K) (zi qi.res K) (qi.fr (.agg [s,w,s',w']) (.agg [t,u,t',u']) (.ptr pa 0) (.ptr pb 0) (.ptr p 0) x5) h3 nx3=.ok True:=by
  intro x5;rw [qi.t7,zA,qi.qj,sFx,an,sFx,bd,sFx,bn,sFx,ad,sFx,ad,sFx,bd];refine xY ⟨_,_,rfl,i1⟩ ⟨_,_,rfl,j2⟩ (xR ha.1 (show Int.natAbs (b.den:Int)<=N from hb.2) (by omega)) _ _ _ _ ?_;intro v1 hv1 _;rw [bd,zF,sFx,zF,ad,zF,sFx,zF,ad,zF,sFx,zF,bn,zF,sFx,zF];refine xY ⟨_,_,rfl,j1⟩ ⟨_,_,rfl,i2⟩ (xR hb.1 (show Int.natAbs (a.den:Int)<=M from ha.2) (by rw [Zbo];omega)) _ _ _ _ ?_;intro v2 hv2 _;rw [bd,zF,sFx,zF,ad,zF,sFx,zF];refine ziw hv1 hv2 (zfo (M:=M*N) (by rw [Zcf];exact Zbg ha.1 hb.2) (by rw [Zcf,Zbo M N];exact Zbg hb.1 ha.2) h) _ _ _ _ ?_;intro v3 hv3 _;rw [bd,zF,sFx,zF,ad,zF,sFx,zF];refine xY ⟨_,_,rfl,i2⟩ ⟨_,_,rfl,j2⟩ (xR (M:=M) (N:=N) ha.2 hb.2 (by omega)) _ _ _ _ ?_;intro v4 hv4 _;refine mT hv3 hv4 (Int.mul_ne_zero (u3 a) (u3 b)) _ _ _ _ ?_;rintro _ ⟨s3,w3,s4,w4,rfl,i3,i4⟩ _;refine H3.yx (l2:=[s3,w3,s4,w4]) (k:=0) rfl rfl rfl λh4 H4 => ?_;simp only [zH,zP];rw [qi.ret,H4.zn (k:=0) (n:=4) rfl rfl];rw [zb4] at i3 i4;exact hK _ _ _ _ _ H4 (uZ (i3.ay i4)) ⟨_,_,_,_,rfl,i3,i4⟩
 rw [zA,zA,qi.zu,H3.zn (k:=2) (n:=4) rfl rfl];refine vB hva0 _ _ _ _ ?_;rintro _ rfl _;by_cases ca:a.den=1
 .rw [Zac ca];simp only [yL];rw [H3.zn (k:=1) (n:=4) rfl rfl,zar];refine vB hvb0 _ _ _ _ ?_;rintro _ rfl _;rw [zZ,zB,qi.v5];by_cases cb:b.den=1
  .rw [Zac cb,zD,zA,qi.je,sFx,an,sFx,bn];refine ziw ⟨_,_,rfl,i1⟩ ⟨_,_,rfl,j1⟩ (zfo (M:=M*N) (Zas ha.1 (Nat.le_mul_of_pos_right M (by have:=hb.2;have:=b.den_pos;omega))) (Zas hb.1 (Nat.le_mul_of_pos_left N (by have:=ha.2;have:=a.den_pos;omega))) h) _ _ _ _ ?_;intro v1 hv1 _;refine zaq hv1 _ _ _ _ ?_;rintro _ ⟨s3,w3,s4,w4,rfl,i3,i4⟩ _;refine H3.yx (l2:=[s3,w3,s4,w4]) (k:=0) rfl rfl rfl λh4 H4 => ?_;simp only [zH,zP];rw [qi.ret,H4.zn (k:=0) (n:=4) rfl rfl];have e:((a.num+b.num:Int):Rat)=a+b:=by rw [Zfm,m8 ca,m8 cb]
   rw [e] at i3 i4;exact hK _ _ _ _ _ H4 (uZ (i3.ay i4)) ⟨_,_,_,_,rfl,i3,i4⟩
  .rw [Zab cb,zC,zE];exact general
 .rw [Zab ca];simp only [yZ];rw [dT,zW,zB,qi.v5,zC,zE];exact general
theorem zkm {va vb:AV} {a b:Rat} {M N:Nat} (hva:jE va a) (hvb:jE vb b) (ha:xg M a) (hb:xg N b) (h:2*(M*N)<=9223372036854775807):Pure Tryz.prog B 192 [va,vb] (λv=>jE v (a-b)):=by
 have hva0:=hva;have hvb0:=hvb;obtain ⟨s,w,s',w',rfl,i1,i2⟩:=hva;obtain ⟨t,u,t',u',rfl,j1,j2⟩:=hvb;refine zX λhh nx K H0 hK=>zM zO yD 100 λhf => ?_;rw [bY.go,bY.t3,zA,bY.zx];refine H0.box (l:=[s,w,s',w']) rfl λpa h1 nx1 H1 => ?_;refine H1.box (l:=[t,u,t',u']) rfl λpb h2 nx2 H2 => ?_;refine H2.alloc λp h3 nx3 H3 => ?_;rw [zA,bY.zu,H3.zn (k:=2) (n:=4) rfl rfl,H3.zn (k:=1) (n:=4) rfl rfl];refine mX hvb0 _ _ _ _ ?_;intro v1 hv1 _;rw [H3.zn (k:=2) (n:=4) rfl rfl,zF];refine zpe hva0 hv1 ha hb.neg h _ _ _ _ ?_;rintro _ ⟨s3,w3,s4,w4,rfl,i3,i4⟩ _;refine H3.yx (l2:=[s3,w3,s4,w4]) (k:=0) rfl rfl rfl λh4 H4 => ?_;simp only [zH,zP];rw [bY.ret,H4.zn (k:=0) (n:=4) rfl rfl];rw [<- Rat.sub_eq_add_neg] at i3 i4;exact hK _ _ _ _ _ H4 (uZ (i3.ay i4)) ⟨_,_,_,_,rfl,i3,i4⟩
theorem xg.inv {M:Nat} {q:Rat} (h:xg M q):xg M q⁻¹:=by
 have h1:(q⁻¹).num.natAbs<=q.den/\(q⁻¹).den<=max 1 q.num.natAbs:=by
  rw [Rat.inv_def];by_cases c:q.num=0
  .rw [c];have e:Rat.divInt (q.den:Int) 0=0:=by simp
   rw [e];exact ⟨by simp,by simp⟩
  .refine ⟨?_,?_⟩
   .rw [Rat.num_divInt];refine Zas (Int.natAbs_ediv_le_natAbs _ _) ?_;rw [Zcf,Int.natAbs_sign_of_ne_zero c,Zcl,Zbr];exact Zaf _
   .rw [Rat.den_divInt,if_neg c];refine Zas (Zcz _ _) ?_;omega
 obtain ⟨a,b⟩:=h;have:=q.den_pos;exact ⟨by omega,by omega⟩
theorem zt2 {a b:Int} {K:AV->OP}:sMin true (I a) [I b] K=K (I (max a b)):=by
 have e:sMin true (I a) [I b] K=K (.int .i64 (bif ilt a b then b else a)):=rfl;rw [e,wI]
 congr 2
 by_cases c:a<b
 .simp only [c,decide_true,cond_true];omega
 .simp only [c,decide_false,cond_false];omega
theorem ziy {n:Nat} (h:n<=9223372036854775807):(kg n 1).length<=20:=by
 unfold kg;rw [Zai,Zct];have:=zfg (n:=n) (w:=1) (by omega) (by omega);omega
theorem zzo {a b:Int} (ha : -4000000000000000000<=a/\a<=4000000000000000000) (hb:0<b/\b<=4000000000000000000):Pure Tryz.prog B 128 [I a,I b] (· = .str (qp (Rat.divInt a b))):=by
 refine zX λh nx K H0 hK=>zM zO yD 100 λhf => ?_;rw [zo.go,zo.t32,zA,zo.zx]
 have tail:∀ {a b:Int} {x5 x6:AV},(-4000000000000000000<=a/\a<=4000000000000000000)->(0<b/\b<=4000000000000000000)->(∀ v h' nx' L v',Hp h h' nx' L->rV h h' v v'->v'=.str (qp (Rat.divInt a b))->K v h' nx'=.ok True) ->
   zo.t29.run (CS Tryz.prog B) 100 (fnO zo.res K) (zi zo.res K) (zo.fr (I a) (I b) (.str []) .u .u x5 x6 .u .u) h nx=.ok True:=by
  intro a b x5 x6 ha hb hK;have hg:0<Nat.gcd a.natAbs b.natAbs:=Nat.gcd_pos_of_pos_right _ (by omega);have hgl:Nat.gcd a.natAbs b.natAbs<=b.natAbs:=Nat.le_of_dvd (by omega) (Nat.gcd_dvd_right ..);obtain ⟨d1,d2⟩:=qF (n:=a) (d:=b) hb.1;have eg:(Int.gcd a b:Int)=((Nat.gcd a.natAbs b.natAbs:Nat):Int):=rfl;have e1:a.tdiv ((Nat.gcd a.natAbs b.natAbs:Nat):Int)=(Rat.divInt a b).num:=by
   rw [d1,<- eg];exact Int.tdiv_eq_ediv_of_dvd (Zfg ..)
  have e2:b.tdiv ((Nat.gcd a.natAbs b.natAbs:Nat):Int)=((Rat.divInt a b).den:Int):=by
   rw [d2,<- eg];exact Int.tdiv_eq_ediv_of_dvd (Zfa ..)
  have hn:(Rat.divInt a b).num.natAbs<=a.natAbs:=by
   rw [<- e1,Int.natAbs_tdiv,Zbr];exact Zcz _ _
  have hd:(Rat.divInt a b).den<=b.natAbs:=by
   have:=congrArg Int.natAbs e2;rw [Int.natAbs_tdiv,Zbr,Zbr] at this;rw [<- this];exact Zcz _ _
  rw [zo.t29,zA,zo.rH,wz (by omega),zt2,show max a (0-a)=(a.natAbs:Int) by omega];have hbb:I b=I (b.natAbs:Int):=by congr 1;omega
  have hgc:∀ KK:Kw Prop,(∀ h2 n3,h2=h->n3=nx->KK (I ((Nat.gcd a.natAbs b.natAbs:Nat):Int)) h2 n3=.ok True)->(CS Tryz.prog B).fn 210 (.of 210) [I (a.natAbs:Int),I b] h nx KK=.ok True:=λKK q=>by
   rw [hbb];refine zv6 (by omega) (by omega) _ _ _ _ ?_;rintro _ rfl _;exact q _ _ rfl rfl
  refine hgc _ ?_;rintro h2 n3 rfl rfl;rw [zA,zo.mh,zfd (by omega) (by omega),zfd (by omega) (by omega),e1,e2,zA,zo.fB,zA,zA,zo.fK,ji,zB,zo.v7]
  generalize Rat.divInt a b=q at *
  have l1:=ziy (n:=q.num.natAbs) (by omega);have l2:=ziy (n:=q.den) (by omega);have fin:∀ (sg:List UInt8) (x7:AV),sg=(if q.num<0 then [45] else [])->zo.t25.run (CS Tryz.prog B) 100 (fnO zo.res K) (zi zo.res K) (zo.fr (I q.num) (I (q.den:Int)) (.str []) (I ((Nat.gcd a.natAbs b.natAbs:Nat):Int)) (.str sg) x5 x6 x7 .u) h2 n3=.ok True:=by
   intro sg x7 hsg;have ls:sg.length<=1:=by rw [hsg];split <;> simp
   rw [zo.t25,zA,zo.nV,wz (by omega),zt2,show max q.num (0-q.num)=(q.num.natAbs:Int) by omega];refine zam (w:=1) (by omega) (by omega) _ _ _ _ ?_;rintro _ rfl _;rw [tCat (by omega),zA,zA,zo.aP,qm,zB,zo.v8];have hint:sg++kg q.num.natAbs 1=fF q.num:=by rw [hsg];rfl
   by_cases c:q.den=1
   .rw [Zab (by omega),zC,zE,zA,zo.sZ];simp only [zH,zP];rw [zo.ret];exact hK _ _ _ _ _ H0 (zY rfl) (by rw [qp,if_pos c,Zbj,hint])
   .have hdp:=q.den_pos;rw [Zac (by omega),zD,zo.nQ,tCat (by simp;omega)];refine zam (w:=1) (by omega) (by omega) _ _ _ _ ?_;rintro _ rfl _;rw [tCat (by simp;omega),zA,zo.sZ];simp only [zH,zP];rw [zo.ret];refine hK _ _ _ _ _ H0 (zY rfl) ?_;rw [qp,if_neg c,<- hint,fF,if_neg (show ¬ ((q.den:Int)<0) by omega),Zbv,Zbr];simp
  by_cases d:q.num<0
  .rw [Zac d,zD,zo.rJ];exact fin _ _ (by rw [if_pos d])
  .rw [Zab d,zC,zE];exact fin _ _ (by rw [if_neg d])
 rw [zA,zA,zo.zu,zo.nR,zo.nS,ji,Zab (by omega)];simp only [yJ];rw [qm];simp only [zW];rw [Zab (by omega)];simp only [yJ];rw [zo.rO,zo.fT];simp only [yJ];rw [ji];simp only [zW];rw [Zab (by omega)];simp only [yJ];rw [qm];simp only [zW];rw [Zab (by omega),zB,zo.v5,zC,zE,zA,zA,zo.qj,ji,zB,zo.v6,Zab (by omega),zC,zE];exact tail ha hb hK
theorem zpf {p q:Rat} (p1:p.num.natAbs<1000000000) (p2:p.den<1000000000) (q1:q.num.natAbs<1000000000) (q2:q.den<1000000000):Pure Tryz.prog B 40 [.str (qp p),.str (qp q)] (· = .str (qp (p+q))):=by
 refine zX λh nx K H0 hK=>zM zO yD 100 λhf => ?_;rw [F40.go,F40.t17,zA,F40.zx,zA,F40.zu];refine zfl p1 p2 _ _ _ _ ?_;rintro _ rfl _;rw [jK,jJ,gG,zA,F40.je];refine zfl q1 q2 _ _ _ _ ?_;rintro _ rfl _;rw [jK,jJ,gG,zA,zA,F40.bq];simp only [yL,zZ];have m1:(p.num*(q.den:Int)).natAbs<10 ^ 9*10 ^ 9:=by rw [Zcf];exact Zel p1 (by omega)
 have m2:(q.num*(p.den:Int)).natAbs<10 ^ 9*10 ^ 9:=by rw [Zcf];exact Zel q1 (by omega)
 have m3:((p.den:Int)*(q.den:Int)).natAbs<10 ^ 9*10 ^ 9:=by rw [Zcf];exact Zel (by omega) (by omega)
 have m4:0<(p.den:Int)*(q.den:Int):=Int.mul_pos (Int.natCast_pos.2 p.den_pos) (Int.natCast_pos.2 q.den_pos);rw [zB,F40.v13,zD,zA,F40.fD,fE (by omega),fE (by omega),gq (by omega),fE (by omega)];refine zzo (by omega) (by omega) _ _ _ _ ?_;rintro _ rfl _;rw [zb4];simp only [zH,zP];rw [F40.ret];exact hK _ _ _ _ _ H0 (zY rfl) rfl
theorem zdc {n:Nat} (h:kg n 1=[48]):n=0:=by
 have hlt:=ziv (n:=n) (k:=1) (by rw [h];simp);rcases Zdy n with e | e
 .exact e
 .exfalso
  have hd:dg 10 n=[n]:=by
   rw [kE (by decide) (by omega),show n / 10=0 by omega,gJ,show n%10=n by omega]
  unfold kg at h;rw [pS (by omega),hd] at h;have:∀ n<10,0<n->dch n≠48:=by decide +kernel
  exact this n (by omega) e (by simpa using h)
theorem zb6 {q:Rat}:qp q=[48]↔q=0:=by
 constructor
 .intro h;have hd1:=qY q.num.natAbs;have hlen:=congrArg List.length h;rw [pQ] at h hlen;by_cases d:q.num<0
  .rw [if_pos d] at h;have:=congrArg List.head? h;simp at this
  .rw [if_neg d,Zbv] at h hlen;unfold fU at h hlen;by_cases c:q.den=1
   .rw [if_pos c,Zbj] at h;have:=zdc h;exact Rat.num_eq_zero.1 (by omega)
   .rw [if_neg c] at hlen;simp at hlen;omega
 .rintro rfl;rw [qp,if_pos (show (0:Rat).den=1 from rfl),Zbj];show fF 0=[48];rw [fF,if_neg (by decide)];exact dE
theorem ziz {a b:List UInt8} {K:AV->OP}:za .eql .str (.str a) (.str b) K=K (.bool (decide (a=b))):=by
 have e:za .eql .str (.str a) (.str b) K=K (.bool (gZ a b)):=nr rfl;rw [e];by_cases c:a=b
 .rw [Zac c,bS.2 c]
 .rw [Zab c];cases q:gZ a b with
  | true=>exact absurd (bS.1 q) c
  | false=>rfl
theorem zas {q:Rat} (d:q.num<0):qp q=45::fU q:=by rw [pQ,if_pos d];rfl
theorem pP {q:Rat} (d:¬ q.num<0):qp q=fU q/\∃ c,(qp q)[0]? = some c/\c≠45:=by
 have hd1:=qY q.num.natAbs;have hcut:qp q=fU q:=by rw [pQ,if_neg d];rfl
 have hc0:=List.getElem?_eq_getElem (l:=kg q.num.natAbs 1) (i:=0) (by omega);exact ⟨hcut,_,by rw [hcut,fU,List.getElem?_append_left (by omega),hc0],(dF (Zad hc0)).2⟩
theorem zkn (q:Rat):1<=(qp q).length:=by
 have hd1:=qY q.num.natAbs;rw [pQ,fU,Zae,Zae];omega
theorem zpg (q:Rat):fU (-q)=fU q:=by unfold fU;rw [Zft,Rat.neg_den,Zei]
theorem zko {q:Rat}:Pure Tryz.prog B 39 [.str (qp q)] (· = .bool (decide (q=0))):=by
 refine zX λh nx K H0 hK=>zM zO yD 100 λhf => ?_;rw [F39.go,F39.t3,zA,F39.zx,zA,F39.zu,ziz];simp only [zH,zP];rw [F39.ret];exact hK _ _ _ _ _ H0 (zY rfl) (by congr 1;exact decide_eq_decide.2 zb6)
abbrev T9 (q:Rat):AV:=.str (qp q)
def l10 (n:Nat):Nat:=n*78913 / 262144
theorem iShr {m n:Nat} {K:AV->OP} (hn:n<=64):za .shr .int (I (m:Int)) (.int .u64 (n:Int)) K=K (I ((m / 2 ^ n:Nat):Int)):=by
 have e:za .shr .int (I (m:Int)) (.int .u64 (n:Int)) K=(bif ilt (n:Int) 0 then Out.no 5 else qb ((m:Int).fdiv (2 ^ (min (n:Int).toNat IntKind.i64.bits))) λz=>K (.int .i64 z)):=rfl;have h0:ilt (n:Int) 0=false:=rfl;rw [e,h0,cond_false,jI];have hb:IntKind.i64.bits=64:=rfl;rw [hb,Zez,Zbn hn,Int.fdiv_eq_ediv_of_nonneg _ (Int.pow_nonneg (by omega))]
 congr 2
theorem zv9 {n:Nat} (hn:n<=64):Pure Tryz.prog B 329 [I (n:Int)] (· = I (l10 n:Int)):=by
 intro p h nx K hK;refine zM zO yD 100 λhf => ?_;rw [bZ.go,bZ.t3,zA,bZ.zx,zA,bZ.zu,fE (by omega),show (n:Int)*78913=((n*78913:Nat):Int) by omega,show (AV.int .u64 18)=.int .u64 ((18:Nat):Int) from rfl,iShr (by omega)];simp only [zH,zP];rw [bZ.ret];exact hK _ rfl hf
theorem zru {b:Bool}:Pure Tryz.prog B 330 [.bool b] (· = I (if b then 1 else 0)):=by
 intro p h nx K hK;refine zM zO yD 100 λhf => ?_;rw [ve.go,ve.t9,zA,ve.zx,zA,zA,ve.zu,zB,ve.v2];cases b with
 | true =>
  rw [zD,zA,ve.je];simp only [zH,zP];rw [ve.ret];exact hK _ rfl hf
 | false =>
  rw [zC,zE,zA,ve.qj];simp only [zH,zP];rw [ve.ret];exact hK _ rfl hf
theorem zwa:∀ n<65,l10 n<20/\2 ^ n<=10 ^ (l10 n+1)/\(l10 n=0\/2*10 ^ (l10 n-1)<=2 ^ n):=by decide
theorem zrv:∀ n<20,(layG 2)[n]? = some (10 ^ n):=by decide
def IsNd (u d:Nat):Prop:=1<=d/\d<=20/\u<10 ^ d/\10 ^ (d-1)<=u
theorem zkp {u:Nat} (h0:0<u) (hu:u<18446744073709551616):Pure Tryz.prog B 316 [U u] (λv=>∃ d:Nat,v=I (d:Int)/\IsNd u d):=by
 intro p h nx K hK;refine zM zO yD 100 λhf => ?_;rw [pu.go,pu.t5,zA,pu.zx,zA,pu.zu];refine zo2 hu _ _ _ _ ?_;rintro _ ⟨n,rfl,hn64,hn1,hn2⟩ _;refine zv9 hn64 _ _ _ _ ?_;rintro _ rfl _;obtain ⟨a1,a2,a3⟩:=zwa n (by omega);obtain ⟨l,hl⟩:∃ l,l=l10 n:=⟨_,rfl⟩;rw [<- hl] at a1 a2 a3 ⊢;have hn2:=hn2 h0;have e1:∀ K:AV->OP,aR 1 20 (.fp (aJ 2)) (I (l:Int)) K=K (.fp ((aJ 2).drop (l*1))):=λK=>by
  show (bif Nat.ble (Nat.succ l) 20 then K (.fp ((aJ 2).drop (l*1))) else .no 14)=_;rw [Zag (by omega)];rfl
 have e2:∀ K:AV->OP,zI (.fp ((aJ 2).drop (l*1))) h K=K (U (10 ^ l)):=λK=>by
  have hg:(aJ 2)[l]? = some (U (10 ^ l)):=by
   rw [aJ,List.getElem?_map,zrv l a1];rfl
  have hd:(aJ 2).drop (l*1)=U (10 ^ l)::(aJ 2).drop (l+1):=by
   rw [Zck,List.drop_eq_getElem?_toList_append,hg];rfl
  rw [hd];rfl
 rw [zA,pu.je,e1,e2,uGeq];refine zru _ _ _ _ ?_;rintro _ rfl _;rw [gq (by split <;> omega)];simp only [zH,zP];rw [pu.ret];by_cases c:10 ^ l<=u
 .rw [Zac c,if_pos rfl,show (l:Int)+1=((l+1:Nat):Int) by omega];exact hK _ ⟨_,rfl,by omega,by omega,by omega,by rw [Nat.add_sub_cancel];exact c⟩ hf
 .rw [Zab c,if_neg (by decide),show (l:Int)+0=((l:Nat):Int) by omega];have hl1:l≠0:=λe=>by rw [e] at c;omega
  exact hK _ ⟨_,rfl,by omega,by omega,by omega,by
   rcases a3 with q | q
   .exact absurd q hl1
   .omega⟩ hf
theorem xA {l c:List AV} {off:Nat} (h:off+c.length<=l.length):(j3 l off c).length=l.length:=by
 unfold j3;rw [Zae,Zae,Zal,Zcc];omega
theorem dV {l c:List AV} {off m:Nat} (h:off+c.length<=l.length):(j3 l off c)[m]? = if off<=m/\m<off+c.length then c[m-off]? else l[m]? := by
 unfold j3;have ht:(l.take off).length=off:=by rw [Zal];omega
 by_cases h1:m<off
 .rw [if_neg (by omega),Zbi,List.getElem?_append_left (by omega),List.getElem?_take_of_lt h1]
 .by_cases h2:m<off+c.length
  .rw [if_pos (by omega),Zbi,List.getElem?_append_right (by omega),ht,List.getElem?_append_left (by omega)]
  .rw [if_neg (by omega),Zbi,List.getElem?_append_right (by omega),ht,List.getElem?_append_right (by omega),List.getElem?_drop]
   congr 1;omega
theorem Hp.sj {h0 h:T Blk} {nx:Pa} {L:List Ob} {k n off:Nat} {id:Pa} {l l2:List AV} {K:Kw Prop} (H:Hp h0 h nx L) (hk:L[k]? = some (.arr id l)) (hle:off+n<=l.length) (hl2:l2.length=n) (hK:∀ h',Hp h0 h' nx (L.set k (.arr id (j3 l off l2)))->K .u h' nx=.ok True):zT n (.ptr id off) (.agg l2) h nx K=.ok True:=by
 obtain ⟨o,t,h1,h2⟩:=H.own _ (Zad hk);show uy (T.get .no id h) _ _=_;rw [h1];show (bif Nat.beq l2.length n&&Nat.ble (off+n) l.length then gV l2 t off (λt'=>T.pq Blk.no (.cells o l.length t') id h λh'=>K .u h' nx) else .no 42)=_;rw [tQ hl2,Zag hle];simp only [Zga,cond_true];rw [jL,T.jy];refine hK _ (H.upd hk (by simp [Ob.names]) rfl ⟨o,_,by rw [T.get_set_same,xA (by omega)],?_⟩);rw [xA (by omega)];apply Zbq;intro i;rw [dV (by omega)];by_cases hi:i<l.length
 .rw [yG _ _ _ _ hi,Zbd,uY];have hr:=yG t 0 l.length i hi;rw [h2,Zbd] at hr;by_cases hc:off<=i/\i<off+l2.length
  .rw [if_pos hc,if_pos hc,Zaa,List.getElem?_eq_getElem (by omega)];rfl
  .rw [if_neg hc,if_neg hc];exact hr.symm
 .rw [List.getElem?_eq_none (by simp;omega),if_neg (by omega),List.getElem?_eq_none (by omega)]
def sP (c:List AV) (j:Nat) (x:Rat):Prop:=∃ s w s' w',(c.drop (j*4)).take 4=[s,w,s',w']/\vk s w x.num/\vk s' w' (x.den:Int)
def fI (c:List AV) (q:List Rat):Prop:=c.length=q.length*4/\∀ j x,q[j]? = some x->sP c j x
theorem zph {c d:List AV} {i j:Nat} (h:∀ t,t<4->c[i+t]? = d[j+t]?):(c.drop i).take 4=(d.drop j).take 4:=by
 apply Zbq;intro t;by_cases ht:t<4
 .rw [List.getElem?_take_of_lt ht,List.getElem?_take_of_lt ht,List.getElem?_drop,List.getElem?_drop];exact h t ht
 .rw [List.getElem?_eq_none (by rw [Zal];omega),List.getElem?_eq_none (by rw [Zal];omega)]
theorem sP.same {c:List AV} {j:Nat} {x:Rat} {s w s' w':AV} (hj:j*4+4<=c.length) (h1:vk s w x.num) (h2:vk s' w' (x.den:Int)):sP (j3 c (j*4) [s,w,s',w']) j x:=by
 refine ⟨s,w,s',w',?_,h1,h2⟩;have:[s,w,s',w']=(([s,w,s',w']:List AV).drop 0).take 4:=rfl;rw [this];refine zph λt ht => ?_;rw [dV (by simpa using hj),if_pos ⟨by omega,by simp;omega⟩];simp
theorem sP.other {c:List AV} {i j:Nat} {x:Rat} {s w s' w':AV} (hj:j*4+4<=c.length) (hij:i≠j) (h:sP c i x):sP (j3 c (j*4) [s,w,s',w']) i x:=by
 obtain ⟨a,b,a',b',e,h1,h2⟩:=h;refine ⟨a,b,a',b',?_,h1,h2⟩;rw [<- e];refine zph λt ht => ?_;rw [dV (by simpa using hj),if_neg];simp only [Zba,Zeq];omega
theorem fI.put {c:List AV} {q:List Rat} {j:Nat} {x:Rat} {s w s' w':AV} (h:fI c q) (hj:j<q.length) (h1:vk s w x.num) (h2:vk s' w' (x.den:Int)):fI (j3 c (j*4) [s,w,s',w']) (q.set j x):=by
 have hl:j*4+4<=c.length:=by rw [h.1];omega
 refine ⟨by rw [xA (by simpa using hl),Zbc];exact h.1,λi y hy => ?_⟩;by_cases e:i=j
 .subst e;rw [List.getElem?_set_self hj] at hy;obtain rfl:=Option.some.inj hy;exact sP.same hl h1 h2
 .rw [List.getElem?_set_ne (by omega)] at hy;exact sP.other hl e (h.2 i y hy)
theorem fI.get {c:List AV} {q:List Rat} {j:Nat} {x:Rat} (h:fI c q) (hx:q[j]? = some x):∃ cs,(c.drop (j*4)).take 4=cs/\j*4+4<=c.length/\j<q.length/\jE (.agg cs) x:=by
 obtain ⟨s,w,s',w',e,h1,h2⟩:=h.2 j x hx;have hj:=(List.getElem?_eq_some_iff.1 hx).1;exact ⟨_,e,by rw [h.1];omega,hj,s,w,s',w',rfl,h1,h2⟩
abbrev rwV (n:Nat) (r:Pa):AV:=.sl r 0 n (some n) 4
theorem sQ {r:Pa} {n j:Nat} {z:Int} {op:AV->OP} (hz:z=(j:Int)) (hj:j<n):zN 4 (rwV n r) (I z) op=op (.ptr r (j*4)):=by
 subst hz;rw [u7 hj,Zbd]
theorem zt3 {n j:Nat} {l:List AV} {z:Int} {op:AV->OP} (hz:z=(j:Int)) (hj:j<n):zN 4 (.lst 4 n l) (I z) op=op (.fp (l.drop (j*4))):=bR hz hj
abbrev V (m:Nat):AV:=.int .u32 (m:Int)
theorem zi0 {m:Nat} (h:m<4294967296):IntKind.wrap .u32 (m:Int)=(m:Int):=by
 have e:IntKind.wrap .u32 (m:Int)=(m:Int)%4294967296:=by
  unfold IntKind.wrap;first | rfl | simp [IntKind.bits,IntKind.signed] | skip
 rw [e];omega
theorem vQuo {a b:Nat} {K:AV->OP} (hb:1<=b) (ha:a<4294967296):za .quo .int (V a) (V b) K=K (V (a / b)):=by
 have e:za .quo .int (V a) (V b) K=(bif ieq (b:Int) 0 then Out.no 5 else qb (IntKind.u32.wrap ((a:Int).tdiv b)) λz=>K (.int .u32 z)):=rfl;have h0:ieq (b:Int) 0=false:=by
  cases b with
  | zero=>omega
  | succ b=>rfl
 have h1:a / b<=a:=Zcz a b;rw [e,h0,cond_false,jI,show (a:Int).tdiv b=((a / b:Nat):Int) from rfl]
 generalize a / b=q at *
 rw [zi0 (by omega)]
theorem vRem {a b:Nat} {K:AV->OP} (hb:1<=b):za .rem .int (V a) (V b) K=K (V (a%b)):=by
 have e:za .rem .int (V a) (V b) K=(bif ieq (b:Int) 0 then Out.no 5 else qb ((a:Int).tmod b) λz=>K (.int .u32 z)):=rfl;have h0:ieq (b:Int) 0=false:=by
  cases b with
  | zero=>omega
  | succ b=>rfl
 rw [e,h0,cond_false,jI,show (a:Int).tmod b=((a%b:Nat):Int) from rfl]
theorem vMul {a b:Nat} {K:AV->OP} (h:a*b<4294967296):za .mul .int (V a) (V b) K=K (V (a*b)):=by
 have e:za .mul .int (V a) (V b) K=qb (IntKind.u32.wrap ((a:Int)*b)) λz=>K (.int .u32 z):=rfl;rw [e,jI,show (a:Int)*b=((a*b:Nat):Int) by rw [Zfk],zi0 h]
theorem vAdd {a b:Nat} {K:AV->OP} (h:a+b<4294967296):za .add .int (V a) (V b) K=K (V (a+b)):=by
 have e:za .add .int (V a) (V b) K=qb (IntKind.u32.wrap ((a:Int)+b)) λz=>K (.int .u32 z):=rfl;rw [e,jI,show (a:Int)+b=((a+b:Nat):Int) by rw [Int.natCast_add],zi0 h]
theorem zt4 {a:Nat} {K:AV->OP} (h:a<4294967296):kJ .u32 (U a) K=K (V a):=by
 show qb (uP .u32 (a:Int)) (λz=>K (.int .u32 z))=_;rw [jI,uU,zi0 h]
def SMQ:List UInt8:=[48,48,48,49,48,50,48,51,48,52,48,53,48,54,48,55,48,56,48,57,49,48,49,49,49,50,49,51,49,52,49,53,49,54,49,55,49,56,49,57,50,48,50,49,50,50,50,51,50,52,50,53,50,54,50,55,50,56,50,57,51,48,51,49,51,50,51,51,51,52,51,53,51,54,51,55,51,56,51,57,52,48,52,49,52,50,52,51,52,52,52,53,52,54,52,55,52,56,52,57,53,48,53,49,53,50,53,51,53,52,53,53,53,54,53,55,53,56,53,57,54,48,54,49,54,50,54,51,54,52,54,53,54,54,54,55,54,56,54,57,55,48,55,49,55,50,55,51,55,52,55,53,55,54,55,55,55,56,55,57,56,48,56,49,56,50,56,51,56,52,56,53,56,54,56,55,56,56,56,57,57,48,57,49,57,50,57,51,57,52,57,53,57,54,57,55,57,56,57,57]
abbrev C8 (d:Nat):AV:=.int .u8 ((48+d:Nat):Int)
theorem zzp:∀ d<100,(SMQ[d*2]?).map UInt8.toNat=some (48+d / 10)/\(SMQ[d*2+1]?).map UInt8.toNat=some (48+d%10):=by decide
theorem smIx {i c:Nat} {K:AV->OP} (h:(SMQ[i]?).map UInt8.toNat=some (48+c)):jO (.str SMQ) (V i) K=K (C8 c):=by
 show (match SMQ[i]? with
  | some b=>ql b.toNat λn=>K (.int .u8 (.ofNat n))
  | none=>.no 16)=_
 cases hs:SMQ[i]? with
 | none=>rw [hs] at h;cases h
 | some b =>
  rw [hs] at h;have h:b.toNat=48+c:=Option.some.inj h;simp only [yH,h];rfl
theorem zat {h0 h:T Blk} {nx:Pa} {L:List Ob} {k off n m p d:Nat} {id:Pa} {l:List AV} {c1 c2:Int} {cap:Option Nat} {K:KW3} (H:Hp h0 h nx L) (hk:L[k]? = some (.arr id l)) (ho:off+n<=l.length) (hm:p+1<n) (hn:n<=1000) (hd:d<100) (e1:(m:Int)-c1=((p+1:Nat):Int)) (e2:(m:Int)-c2=(p:Int)) (hK:∀ h',Hp h0 h' nx (L.set k (.arr id ((l.set (off+(p+1)) (C8 (d%10))).set (off+p) (C8 (d / 10)))))->K .u h' nx=.ok True) :
  (za .sub .int (I (m:Int)) (I c1) λv1=>za .sub .int (I (m:Int)) (I c2) λv2=>za .add .int (V (d*2)) (.int .u32 1) λv3=>jO (.str SMQ) v3 λv4=>jO (.str SMQ) (V (d*2)) λv5=>zN 1 (.sl id off n cap 1) v1 λv6=>zT 1 v6 v4 h nx λ_ h8 n9=>(jO (.str SMQ) (V (d*2)) λv15=>zR v15 v5 (zR (V (d*2)) (V (d*2)) ((za .sub .int (I (m:Int)) (I c2) λv14=>zR v14 v2 (zR (I (m:Int)) (I (m:Int)) (zR (.sl id off n cap 1) (.sl id off n cap 1) (zN 1 (.sl id off n cap 1) v2 λv10=>zT 1 v10 v5 h8 n9 K))))))))
   = .ok True:=by
 obtain ⟨s1,s2⟩:=zzp d hd;have hkl:=(List.getElem?_eq_some_iff.1 hk).1;rw [wz (by omega),e1,wz (by omega),e2,show (AV.int .u32 1)=V 1 from rfl,vAdd (by omega),smIx s2,smIx s1,u7 (by omega),Zck];refine H.store hk (by omega) rfl λh1 H1 => ?_;simp only [smIx s1,zF];rw [wz (by omega),e2];simp only [zF];rw [u7 (by omega),Zck];refine H1.store (k:=k) (List.getElem?_set_self hkl) (by rw [Zbc];omega) rfl λh2 H2 => ?_;rw [Zdd] at H2;exact hK h2 H2
structure Wr (l l':List AV) (off nd m u:Nat):Prop where
 len:l'.length=l.length
 get:∀ i,l'[i]? = if off+m<=i/\i<off+nd then some (C8 (u / 10 ^ (off+nd-1-i)%10)) else l[i]?
theorem Wr.zero (l:List AV) (off nd u:Nat):Wr l l off nd nd u:=⟨rfl,λi=>by rw [if_neg (by omega)]⟩
theorem Wr.one {l l':List AV} {off nd p u e d:Nat} (h:Wr l l' off nd (p+1) u) (ho:off+nd<=l.length) (hp:p+1<=nd) (he:nd-(p+1)=e) (hd:d=u / 10 ^ e%10):Wr l (l'.set (off+p) (C8 d)) off nd p u:=by
 refine ⟨by rw [Zbc];exact h.len,λi => ?_⟩;have hl:=h.len;by_cases c:i=off+p
 .subst c;rw [List.getElem?_set_self (by omega),if_pos (by omega),show off+nd-1-(off+p)=e by omega,hd]
 .rw [List.getElem?_set_ne (by omega),h.get i];by_cases c2:off+(p+1)<=i/\i<off+nd
  .rw [if_pos c2,if_pos (by omega)]
  .rw [if_neg c2,if_neg (by omega)]
theorem Wr.pair {l l':List AV} {off nd p u e d:Nat} (h:Wr l l' off nd (p+2) u) (ho:off+nd<=l.length) (hp:p+2<=nd) (he:nd-(p+2)=e) (hd:d=u / 10 ^ e%100):Wr l ((l'.set (off+(p+1)) (C8 (d%10))).set (off+p) (C8 (d / 10))) off nd p u :=
 (h.one (p:=p+1) (e:=e) (d:=d%10) ho (by omega) (by omega) (by omega)).one (e:=e+1) ho (by omega) (by omega) (by
  rw [Zcx,<- Zfb,hd];omega)
theorem dvE {u v e j:Nat} (h:v=u / 10 ^ e):u / 10 ^ (e+j)=v / 10 ^ j:=by rw [Zea,<- Zfb,h]
theorem C8v {a:Nat} {K:AV->OP} (h:a<10):kJ .u8 (V (48+a)) K=K (C8 a):=by
 show qb (uP .u8 ((48+a:Nat):Int)) (λz=>K (.int .u8 z))=_;rw [jI,uU];have e:IntKind.wrap .u8 ((48+a:Nat):Int)=((48+a:Nat):Int)%256:=by
  unfold IntKind.wrap;first | rfl | simp [IntKind.bits,IntKind.signed]
 rw [e,show ((48+a:Nat):Int)%256=((48+a:Nat):Int) by omega]
theorem zwb {h0 h:T Blk} {nx p:Pa} {L:List Ob} {k off nd u:Nat} {id:Pa} {l:List AV} {cap:Option Nat} {K:Kw Prop} (H:Hp h0 h nx L) (hk:L[k]? = some (.arr id l)) (ho:off+nd<=l.length) (hn:nd<=100) (hu:u<10 ^ nd) (hw:u<18446744073709551616)
  (hK:∀ l' h' nx',Wr l l' off nd 0 u->Hp h0 h' nx' (L.set k (.arr id l'))->K (.tup []) h' nx'=.ok True):(CS Tryz.prog B).fn 317 p [.sl id off nd cap 1,U u] h nx K=.ok True:=by
 refine zM zO yD 1000 λhf => ?_;have hkl:=(List.getElem?_eq_some_iff.1 hk).1;have hid:∀ {l':List AV},(L.set k (.arr id l'))[k]? = some (.arr id l'):=List.getElem?_set_self hkl
 have s0:∀ (q v:Nat) (l':List AV) (h':T Blk) (nx':Pa) (x1 x3 x4 x5 x6 x7 x8 x9 x11 x12 x13 x14 x15 x16 x17 x18:AV),q<=1->q<=nd->v=u / 10 ^ (nd-q)->v<10 ^ q->Wr l l' off nd q u->Hp h0 h' nx' (L.set k (.arr id l')) ->
   IR.run zf.t55 (CS Tryz.prog B) 1000 (fnO zf.res K) (zi zf.res K) (zf.fr (.sl id off nd cap 1) x1 (I (q:Int)) x3 x4 x5 x6 x7 x8 x9 (V v) x11 x12 x13 x14 x15 x16 x17 x18) h' nx'=.ok True:=by
  intro q v l' h' nx' x1 x3 x4 x5 x6 x7 x8 x9 x11 x12 x13 x14 x15 x16 x17 x18 hq hqn hv aN hW H';rw [zf.t55,zA,zf.zdw,qm,zB,zf.v18];by_cases c:q=0
  .subst c;rw [Zab (by omega),zC,zE];rw [zf.ret];exact hK _ _ _ hW H'
  .obtain rfl:q=1:=by omega
   have aN:v<10:=by omega
   rw [Zac (by omega),zD,zf.zwv,show (AV.int .u32 48)=V 48 from rfl,vAdd (by omega),C8v aN,show (I 0)=AV.int .i64 ((0:Nat):Int) from rfl,u7 (by omega),Nat.zero_mul];have hl:=hW.len;refine H'.store hid (by omega) rfl λh2 H2 => ?_;rw [Zdd] at H2;rw [zf.ret];exact hK _ _ _ (hW.one (p:=0) (e:=nd-1) ho (by omega) rfl (by rw [<- hv];omega)) H2
 have s1:∀ (q v:Nat) (l':List AV) (h':T Blk) (nx':Pa) (x1 x3 x4 x5 x6 x7 x8 x9 x11 x12 x13 x14 x15 x16 x17 x18:AV),q<=3->q<=nd->v=u / 10 ^ (nd-q)->v<10 ^ q->v<4294967296->Wr l l' off nd q u->Hp h0 h' nx' (L.set k (.arr id l')) ->
   IR.run zf.t56 (CS Tryz.prog B) 1000 (fnO zf.res K) (zi zf.res K) (zf.fr (.sl id off nd cap 1) x1 (I (q:Int)) x3 x4 x5 x6 x7 x8 x9 (V v) x11 x12 x13 x14 x15 x16 x17 x18) h' nx'=.ok True:=by
  intro q v l' h' nx' x1 x3 x4 x5 x6 x7 x8 x9 x11 x12 x13 x14 x15 x16 x17 x18 hq hqn hv aN hv32 hW H';rw [zf.t56,zA,zA,zf.zk6,pz,zB,zf.v17];by_cases c:2<=q
  .obtain ⟨p,rfl⟩:∃ p,q=p+2:=⟨q-2,by omega⟩;have hl:=hW.len;have hp:10 ^ (p+2)=10 ^ p*100:=by rw [Zea]
   rw [Zac (by omega),zD,zA,zf.zk7,show (AV.int .u32 100)=V 100 from rfl,vRem (by omega),show (AV.int .u32 2)=V 2 from rfl,vMul (by omega),zA,zf.zk8,show (AV.int .u32 100)=V 100 from rfl,vQuo (by omega) hv32,zA,zf.zk9];refine zat (p:=p) H' hid (by omega) (by omega) (by omega) (by omega) (by omega) (by omega) λh2 H2 => ?_;rw [Zdd] at H2;rw [zf.zla,wz (by omega),show ((p+2:Nat):Int)-2=(p:Int) by omega];exact s0 p (v / 100) _ _ _ _ _ _ _ _ _ _ _ _ _ _ _ _ _ _ _ (by omega) (by omega) (by rw [show nd-p=nd-(p+2)+2 by omega,dvE hv]) (by rw [hp] at aN;exact Zem (by rw [Zbo];exact aN)) (hW.pair ho (by omega) rfl (by rw [<- hv])) H2
  .rw [Zab (by omega),zC,zE];exact s0 q v _ _ _ _ _ _ _ _ _ _ _ _ _ _ _ _ _ _ _ (by omega) hqn hv aN hW H'
 have hW0:=Wr.zero l off nd u;have H0:Hp h0 h nx (L.set k (.arr id l)):=by
  have e:L.set k (.arr id l)=L:=by
   refine Zbq λi => ?_;by_cases c:i=k
   .subst c;rw [List.getElem?_set_self hkl,hk]
   .rw [List.getElem?_set_ne (by omega)]
  rw [e];exact H
 rw [zf.go,zf.t60,zA,zf.zx,yW,zA,zJ];refine zf.zwr (λm x1 x2 h' nx'=>∃ (v:Nat) (l':List AV),x1=U v/\x2=I (m:Int)/\m<=nd/\v=u / 10 ^ (nd-m)/\v<10 ^ m/\v<18446744073709551616/\Wr l l' off nd m u/\Hp h0 h' nx' (L.set k (.arr id l'))) (m:=nd) (by omega) ⟨u,l,rfl,rfl,Zaf _,by rw [Zcd,Nat.pow_zero,Nat.div_one],hu,hw,hW0,H0⟩ ?_;rintro m y1 y2 y3 y4 y5 y6 y7 y8 y9 y15 h3 nx3 R ⟨v,l',rfl,rfl,hm,hv,aN,hvw,hW,H3⟩ hR;have hl:=hW.len;rw [zf.t24,zA,zA,zf.zu,pz,zB,zf.v15];by_cases c:8<=m
 .obtain ⟨q,rfl⟩:∃ q,m=q+8:=⟨m-8,by omega⟩;have hp:10 ^ (q+8)=10 ^ q*100000000:=by rw [Zea]
  have w100:(AV.int .u32 100)=V 100:=rfl;have w2:(AV.int .u32 2)=V 2:=rfl;have w4:(AV.int .u32 10000)=V 10000:=rfl;rw [Zac (by omega),zD,zE,zJ,zA,zf.fD,show (AV.int .u64 100000000)=U 100000000 from rfl,uRem (by omega) hvw,zt4 (by omega),zA,zf.mg,show (AV.int .u64 100000000)=U 100000000 from rfl,uQuo (by omega) hvw,zA,zf.qj,w4,vQuo (by omega) (by omega),vRem (by omega),zA,zf.nk,w100,w2,vQuo (by omega) (by omega),vMul (by omega),vRem (by omega),vMul (by omega),zA,zf.fQ,w100,w2,vQuo (by omega) (by omega),vMul (by omega),vRem (by omega),vMul (by omega),zA,zf.nu];refine zat (p:=q+6) H3 hid (by omega) (by omega) (by omega) (by omega) (by omega) (by omega) λh4 H4 => ?_;rw [Zdd] at H4;have W1:=hW.pair (p:=q+6) (d:=v%100000000%10000%100) ho (by omega) rfl (by rw [<- hv];omega);rw [zA,zf.rH];refine zat (p:=q+4) H4 hid (by rw [W1.len];omega) (by omega) (by omega) (by omega) (by omega) (by omega) λh5 H5 => ?_;rw [Zdd] at H5;have W2:=W1.pair (p:=q+4) (e:=nd-(q+8)+2) (d:=v%100000000%10000 / 100) ho (by omega) (by omega) (by rw [dvE hv];omega);rw [zA,zf.mh];refine zat (p:=q+2) H5 hid (by rw [W2.len];omega) (by omega) (by omega) (by omega) (by omega) (by omega) λh6 H6 => ?_;rw [Zdd] at H6;have W3:=W2.pair (p:=q+2) (e:=nd-(q+8)+4) (d:=v%100000000 / 10000%100) ho (by omega) (by omega) (by rw [dvE hv];omega);rw [zA,zf.fB];refine zat (p:=q) H6 hid (by rw [W3.len];omega) (by omega) (by omega) (by omega) (by omega) (by omega) λh7 H7 => ?_;rw [Zdd] at H7;have W4:=W3.pair (p:=q) (e:=nd-(q+8)+6) (d:=v%100000000 / 10000 / 100) ho (by omega) (by omega) (by rw [dvE hv];omega);rw [zf.fK,wz (by omega),show ((q+8:Nat):Int)-8=(q:Int) by omega];exact hR q _ _ _ _ _ _ _ _ _ _ _ _ (by omega) ⟨v / 100000000,_,rfl,rfl,by omega,by rw [show nd-q=nd-(q+8)+8 by omega,dvE hv],by rw [hp] at aN;exact Zem (by rw [Zbo];exact aN),by omega,W4,H7⟩
 have h8:10 ^ m<=10 ^ 7:=Zcr (by omega) (by omega);have hv32:v<10000000:=by omega
 rw [Zab (by omega),zC,yA,yF,zA,zf.zhy,zt4 (by omega),zA,zA,zf.zdq,pz,zB,zf.v16];by_cases c4:4<=m
 .obtain ⟨q,rfl⟩:∃ q,m=q+4:=⟨m-4,by omega⟩;have hp:10 ^ (q+4)=10 ^ q*10000:=by rw [Zea]
  have w100:(AV.int .u32 100)=V 100:=rfl;have w2:(AV.int .u32 2)=V 2:=rfl;have w4:(AV.int .u32 10000)=V 10000:=rfl;rw [Zac (by omega),zD,zA,zf.zws,w4,vRem (by omega),zA,zf.zdv,w4,vQuo (by omega) (by omega),zA,zf.zwt,w100,w2,vQuo (by omega) (by omega),vMul (by omega),vRem (by omega),vMul (by omega),zA,zf.zwu];refine zat (p:=q+2) H3 hid (by omega) (by omega) (by omega) (by omega) (by omega) (by omega) λh4 H4 => ?_;rw [Zdd] at H4;have W1:=hW.pair (p:=q+2) (d:=v%10000%100) ho (by omega) rfl (by rw [<- hv];omega);rw [zA,zf.zba];refine zat (p:=q) H4 hid (by rw [W1.len];omega) (by omega) (by omega) (by omega) (by omega) (by omega) λh5 H5 => ?_;rw [Zdd] at H5;have W2:=W1.pair (p:=q) (e:=nd-(q+4)+2) (d:=v%10000 / 100) ho (by omega) (by omega) (by rw [dvE hv];omega);rw [zf.af,wz (by omega),show ((q+4:Nat):Int)-4=(q:Int) by omega];exact s1 q (v / 10000) _ _ _ _ _ _ _ _ _ _ _ _ _ _ _ _ _ _ _ (by omega) (by omega) (by rw [show nd-q=nd-(q+4)+4 by omega,dvE hv]) (by rw [hp] at aN;exact Zem (by rw [Zbo];exact aN)) (by omega) W2 H5
 .rw [Zab (by omega),zC,zE];exact s1 m v _ _ _ _ _ _ _ _ _ _ _ _ _ _ _ _ _ _ _ (by omega) hm hv aN (by omega) hW H3
def rR (d u:Nat):List UInt8:=(List.range d).map λi=>UInt8.ofNat (48+u / 10 ^ (d-1-i)%10)
def NdOk (u d:Nat):Prop:=IsNd u d\/u=0/\d=1
def sgT (z:Int):List UInt8:=if z<0 then [45] else []
theorem sSsN {s:List UInt8} {a b:Nat} {K:AV->OP} (hab:a<=b) (hb:b<=s.length):jS (.str s) (some (I (a:Int))) (some (I (b:Int))) K=K (.str ((s.drop a).take (b-a))):=by
 show (match bnd (some (I (b:Int))) s.length s.length with
   | none=>Out.no 18
   | some h=>match bnd (some (I (a:Int))) h 0 with
    | none=>.no 18
    | some l=>K (.str ((s.drop l).take (h-l))))=_
 rw [kY hb]
 dsimp only
 rw [kY hab]
def DG:List UInt8:=[48,49,50,51,52,53,54,55,56,57,97,98,99,100,101,102,103,104,105,106,107,108,109,110,111,112,113,114,115,116,117,118,119,120,121,122]
theorem zwc:∀ n<10,(DG.drop n).take 1=rR 1 n:=by decide +kernel
theorem zwd:∀ n<100,(SMQ.drop (n*2)).take 2=rR 2 n:=by decide +kernel
theorem zpi {n:Nat} (h:n<100):Pure Tryz.prog B 315 [I (n:Int)] (λv=>∃ d,NdOk n d/\v=.str (rR d n)):=by
 intro p h' nx K hK;refine zM zO yD 10 λhf => ?_;rw [vg.go,vg.t9,zA,vg.zx,zA,zA,vg.zu,ji,zB,vg.v2];by_cases c:n<10
 .rw [Zac (by omega),zD,zA,vg.je,gq (by omega),show (n:Int)+1=((n+1:Nat):Int) by omega];refine Eq.trans (sSsN (s:=DG) (by omega) (by show _<=36;omega)) ?_;simp only [zH,zP];rw [vg.ret,show n+1-n=1 by omega,zwc n c];refine hK _ ⟨1,?_,rfl⟩ hf;by_cases c0:n=0
  .exact .inr ⟨c0,rfl⟩
  .exact .inl ⟨by omega,by omega,by omega,by omega⟩
 .rw [Zab (by omega),zC,zE,zA,vg.qj,fE (by omega),show (n:Int)*2=((n*2:Nat):Int) by omega,fE (by omega),show (n:Int)*2=((n*2:Nat):Int) by omega,gq (by omega),show ((n*2:Nat):Int)+2=((n*2+2:Nat):Int) by omega];refine Eq.trans (sSsN (s:=SMQ) (by omega) (by show _<=200;omega)) ?_;simp only [zH,zP];rw [vg.ret,show n*2+2-n*2=2 by omega,zwd n h];exact hK _ ⟨2,.inl ⟨by omega,by omega,by omega,by omega⟩,rfl⟩ hf
theorem zi1:∀ l:List Nat,sU (l.map C8)=some (l.map λd=>UInt8.ofNat (48+d))
 | []=>rfl
 | d::l=>by
  show (match sU (l.map C8) with
   | some s=>some (UInt8.ofNat (48+d)::s)
   | none=>none)=_
  rw [zi1 l];rfl
theorem Hp.b2s {h0 h:T Blk} {nx:Pa} {L:List Ob} {k n off:Nat} {id:Pa} {cap:Option Nat} {l:List AV} {s:List UInt8} {op:AV->OP} (H:Hp h0 h nx L) (hk:L[k]? = some (.arr id l)) (hle:off+n<=l.length) (he:sU ((l.drop off).take n)=some s):sB2s (.sl id off n cap 1) h op=op (.str s):=by
  obtain ⟨o,t,h1,h2⟩:=H.own _ (Zad hk)
  show uy (T.get .no id h) (λ_ m t=>bif Nat.ble (off+n) m then (match sU (yS t off n) with
          | some s=>op (.str s)
          | none=>.no 21) else .no 21) (.no 21)=_
  rw [h1]
  show (bif Nat.ble (off+n) l.length then (match sU (yS t off n) with
          | some s=>op (.str s)
          | none=>.no 21) else .no 21)=_
  rw [Zag hle,cond_true,wH h2 hle,he]
theorem Wr.text {l l':List AV} {off nd u:Nat} (h:Wr l l' off nd 0 u) (ho:off+nd<=l.length):(l'.drop off).take nd=((List.range nd).map λi=>u / 10 ^ (nd-1-i)%10).map C8:=by
 refine Zbq λi => ?_;by_cases c:i<nd
 .rw [List.getElem?_take_of_lt c,List.getElem?_drop,h.get,if_pos (by omega),List.getElem?_map,List.getElem?_map,List.getElem?_range c,show off+nd-1-(off+i)=nd-1-i by omega];rfl
 .rw [List.getElem?_eq_none (by rw [Zal];omega),List.getElem?_eq_none (by rw [Zai,Zai,Zdm];omega)]
theorem zpj (d u:Nat):((List.range d).map λi=>u / 10 ^ (d-1-i)%10).map (λd=>UInt8.ofNat (48+d))=rR d u:=by
 unfold rR;rw [List.map_map];rfl
theorem zi2 {id:Pa} {d:Nat} {K:AV->OP} (hd:d<=20):vQ 1 24 (.ptr id 0) (some (I 1)) (some (I ((1+d:Nat):Int))) none K=K (.sl id 1 d (some 23) 1):=by
 have e1:gM (I ((1+d:Nat):Int)) 24=some (1+d):=by
  show (bif Nat.ble (1+d) 24 then some (1+d) else none)=_;rw [Zag (by omega)];rfl
 have e2:gM (I 1) (1+d)=some 1:=by
  show (bif Nat.ble 1 (1+d) then some 1 else none)=_;rw [Zag (by omega)];rfl
 show (match gM (I ((1+d:Nat):Int)) 24 with
  | none=>Out.no 17
  | some h=>match gM (I 1) h with
   | none=>.no 17
   | some l=>bif Nat.beq 24 l then K (.sl id 0 (h-l) (some 0) 1)
    else ql (0+l*1) λoff=>ql (h-l) λh=>ql (24-l) λm=>K (.sl id off h (some m) 1))=_
 rw [e1];dsimp only;rw [e2];dsimp only;rw [show Nat.beq 24 1=false from rfl,cond_false,yH,yH,yH,show 1+d-1=d by omega]
theorem zrw {id:Pa} {d:Nat} {K:AV->OP} (hd:d<=20):vQ 1 24 (.ptr id 0) none (some (I ((1+d:Nat):Int))) none K=K (.sl id 0 (1+d) (some 24) 1):=by
 have e1:gM (I ((1+d:Nat):Int)) 24=some (1+d):=by
  show (bif Nat.ble (1+d) 24 then some (1+d) else none)=_;rw [Zag (by omega)];rfl
 show (match gM (I ((1+d:Nat):Int)) 24 with
  | none=>Out.no 17
  | some h=>bif Nat.beq 24 0 then K (.sl id 0 (h-0) (some 0) 1)
    else ql (0+0*1) λoff=>ql (h-0) λh=>ql (24-0) λm=>K (.sl id off h (some m) 1))=_
 rw [e1];dsimp only;rw [show Nat.beq 24 0=false from rfl,cond_false,yH,yH,yH];rfl
theorem zzq {z:Int} {K:AV->OP} (h : -9223372036854775808<=z/\z<0):sNeg (U (z+18446744073709551616).toNat) K=K (U z.natAbs):=by
 show qb (uP .u64 (0-(((z+18446744073709551616).toNat:Nat):Int))) (λz=>K (.int .u64 z))=_;rw [jI,uU,zoy,show (0-(((z+18446744073709551616).toNat:Nat):Int))%18446744073709551616=(z.natAbs:Int) by omega]
theorem zwe {z:Int} (hz : -9223372036854775808<=z/\z<=9223372036854775807):Pure Tryz.prog B 314 [I z,I 10] (λv=>∃ d,NdOk z.natAbs d/\v=.str (sgT z++rR d z.natAbs)):=by
 refine zX λh nx K H0 hK=>zM zO yD 1000 λhf => ?_;have ret:∀ {d:Nat} {h1 nx1 L},Hp h h1 nx1 L->NdOk z.natAbs d->K (.str (sgT z++rR d z.natAbs)) h1 nx1=.ok True:=λH hd=>hK _ _ _ _ _ H (zY rfl) ⟨_,hd,rfl⟩
 have rest:∀ (b:Pa) (l:List AV) (h1:T Blk) (nx1:Pa) (x5 x6 x7 x8 x9 x10:AV),l.length=24->z≠0->Hp h h1 nx1 [.arr b l] ->
   IR.run zw.t26 (CS Tryz.prog B) 1000 (fnO zw.res K) (zi zw.res K) (zw.fr (I z) (I 10) (.str []) (.ptr b 0) (U z.natAbs) x5 x6 x7 x8 x9 x10) h1 nx1=.ok True:=by
  intro b l h1 nx1 x5 x6 x7 x8 x9 x10 hl hz0 H1;rw [zw.t26,zA,zw.fK];refine zkp (by omega) (by omega) _ _ _ _ ?_;rintro _ ⟨d,rfl,hd⟩ _;obtain ⟨d1,d2,d3,d4⟩:=hd;rw [zA,zw.rJ,gq (by omega),show (1:Int)+(d:Int)=((1+d:Nat):Int) by omega,zi2 d2];refine zwb (k:=0) H1 rfl (by omega) (by omega) d3 (by omega) λl' h2 nx2 hW H2 => ?_;have hl':=hW.len;have htx:=hW.text (by omega);have hb:sU ((l'.drop 1).take d)=some (rR d z.natAbs):=by rw [htx,zi1,zpj]
  rw [zA,zA,zw.tZ,ji,zB,zw.v10];by_cases c:z<0
  .rw [Zac (by omega),zD,zA,zw.sJ,show ∀ K:AV->OP,aR 1 24 (.ptr b 0) (I 0) K=K (.ptr b 0) from λK=>nr rfl];refine H2.store (k:=0) rfl (by omega) rfl λh3 H3 => ?_;rw [zA,zw.nV,gq (by omega),show (1:Int)+(d:Int)=((1+d:Nat):Int) by omega,zrw d2];have e:sU (((l'.set 0 (.int .u8 45)).drop 0).take (1+d))=some (45::rR d z.natAbs):=by
    cases l' with
    | nil=>simp at hl';omega
    | cons a l2 =>
     rw [Zfv,Zdg,Zdb,List.take_succ_cons]
     show (match sU (l2.take d) with
      | some s=>some (UInt8.ofNat 45::s)
      | none=>none)=_
     rw [show l2.take d=((a::l2).drop 1).take d from rfl,hb];rfl
   rw [H3.b2s (k:=0) rfl (by rw [Zbc];omega) e];simp only [zH,zP];rw [zw.ret];have er:sgT z++rR d z.natAbs=45::rR d z.natAbs:=by unfold sgT;rw [if_pos c];rfl
   rw [<- er];exact ret H3 (.inl ⟨d1,d2,d3,d4⟩)
  .rw [Zab (by omega),zC,zE,zA,zw.sZ,gq (by omega),show (1:Int)+(d:Int)=((1+d:Nat):Int) by omega,zi2 d2,H2.b2s (k:=0) rfl (by omega) hb];simp only [zH,zP];rw [zw.ret];have er:sgT z++rR d z.natAbs=rR d z.natAbs:=by unfold sgT;rw [if_neg c];rfl
   rw [<- er];exact ret H2 (.inl ⟨d1,d2,d3,d4⟩)
 have big:∀ (x3 x4 x5 x6 x7 x8 x9 x10:AV),z≠0->IR.run zw.t29 (CS Tryz.prog B) 1000 (fnO zw.res K) (zi zw.res K) (zw.fr (I z) (I 10) (.str []) x3 x4 x5 x6 x7 x8 x9 x10) h nx=.ok True:=by
  intro x3 x4 x5 x6 x7 x8 x9 x10 hz0;rw [zw.t29,zA,zw.nk];refine H0.alloc λb h1 nx1 H1 => ?_;by_cases c:z<0
  .rw [zA,zw.fQ,zo0 ⟨hz.1,c⟩,zA,zA,zw.nu,ji,zB,zw.v9,Zac (by omega),zD,zw.rH,zzq ⟨hz.1,c⟩];exact rest b _ _ _ _ _ _ _ _ _ rfl hz0 H1
  .rw [zA,zw.fQ,zoz (m:=z.natAbs) (by omega) (by omega),zA,zA,zw.nu,ji,zB,zw.v9,Zab (by omega),zC,zE];exact rest b _ _ _ _ _ _ _ _ _ rfl hz0 H1
 rw [zw.go,zw.t38,zA,zw.zx,zA,zA,zw.zu,vw,Zac rfl,zB,zw.v7,zD,zA,zA,zw.je,fO];by_cases c:0<=z
 .rw [Zac c];simp only [yL];rw [ji];simp only [zZ];rw [zB,zw.v8];by_cases c2:z<100
  .rw [Zac c2,zD,zA,zw.bq,show z=((z.toNat:Nat):Int) by omega];refine zpi (by omega) _ _ _ _ ?_;rintro _ ⟨d,hd,rfl⟩ _;simp only [zH,zP];rw [zw.ret];have en:z.toNat=z.natAbs:=by omega
   have er:sgT z++rR d z.natAbs=rR d z.natAbs:=by unfold sgT;rw [if_neg (by omega)];rfl
   rw [en] at hd ⊢;rw [<- er];exact ret H0 hd
  .rw [Zab c2,zC,zE];exact big _ _ _ _ _ _ _ _ (by omega)
 .rw [Zab c];simp only [yZ,zW];rw [zB,zw.v8,zC,zE];exact big _ _ _ _ _ _ _ _ (by omega)
theorem zrx {z:Int} (hz : -9223372036854775808<=z/\z<=9223372036854775807):Pure Tryz.prog B 248 [I z] (λv=>∃ d,NdOk z.natAbs d/\v=.str (sgT z++rR d z.natAbs)):=by
 intro p h nx K hK;refine zM zO yD 10 λhf => ?_;rw [cB.go,cB.t3,zA,cB.zx,zA,cB.zu];refine u6 (p:=.of 287) (K:=λv1 h2 n3=>K v1 h2 n3) (zM zO yD 10 λhf => ?_) λ_ _ _ _ q=>by
  simp only [zH,zP];rw [cB.ret];exact q
 rw [cu.go,cu.t3,zA,cu.zx,zA,cu.zu];refine zwe hz _ _ _ _ ?_;rintro v hv hf2;simp only [zH,zP];rw [cu.ret];exact hK v hv hf2
theorem zwf:∀ x<10,UInt8.ofNat (48+x)=dch x:=by decide +kernel
theorem zkq (d u:Nat):rR (d+1) u=rR d (u / 10)++[dch (u%10)]:=by
 unfold rR;rw [List.range_succ,Zbe]
 congr 1
 .refine Zfq λi hi => ?_;have:=List.mem_range.1 hi;rw [show d+1-1-i=d-1-i+1 by omega,Zcx,Zbo,<- Zfb]
 .rw [Zdh,show d+1-1-d=0 by omega,Nat.pow_zero,Nat.div_one,zwf _ (Zdp _ (by decide))]
theorem zpk:∀ (d u:Nat),u<10 ^ d->(d=0\/10 ^ (d-1)<=u)->rR d u=kg u 0
 | 0,u,h,_=>by
  obtain rfl:u=0:=by simpa using h
  unfold kg;rw [zb0];rfl
 | d+1,u,h,h2=>by
  have h3:10 ^ d<=u:=by rcases h2 with q | q;omega;simpa using q
  have h4:0<10 ^ d:=Nat.pow_pos (by decide);rw [Zcx] at h
  rw [zkq,zpk d (u / 10) (Zem (by rw [Zbo];exact h)) (by
   cases d with
   | zero=>exact .inl rfl
   | succ d =>
    right
    rw [Zcx] at h3;exact (Nat.le_div_iff_mul_le (by decide)).2 h3)]
  unfold kg;rw [zbz (y:=u) (.inl (by omega)),List.reverse_cons,Zbe];rfl
theorem zpl {u d:Nat} (h:NdOk u d):rR d u=kg u 1:=by
 rcases h with ⟨h1,h2,h3,h4⟩ | ⟨rfl,rfl⟩
 .have hu:u≠0:=λe=>by
   have:0<10 ^ (d-1):=Nat.pow_pos (by decide);omega
  rw [zpk d u h3 (.inr h4)];unfold kg;rw [pS hu];unfold nX;rw [Nat.zero_sub,List.replicate_zero,Zbj]
 .rw [dE];rfl
theorem zzr {z:Int} (hz : -9223372036854775808<=z/\z<=9223372036854775807):Pure Tryz.prog B 248 [I z] (· = .str (fF z)):=by
 intro p h nx K hK;refine zrx hz _ _ _ _ ?_;rintro _ ⟨d,hd,rfl⟩ hf;rw [zpl hd];exact hK _ rfl hf
theorem zdd {v:AV} {z:Int} (hv:qh v z) (hz:z.natAbs<9223372036854775808):Pure Tryz.prog B 188 [v] (· = .str (fF z)):=by
 obtain ⟨s,w,rfl,rfl,rfl,hv⟩:=hv;refine zX λh nx K H0 hK=>zM zO yD 1000 λhf => ?_;rw [dz.go,dz.t60,zA,dz.zx];refine H0.box (l:=[I z,.zb]) rfl λpa h1 nx1 H1 => ?_;rw [zA,zA,dz.zu,sFx,H1.load (k:=0) (i:=0+1) rfl rfl];rw [kB,zB,dz.v12,zD,zA,dz.je,sFx,H1.load (k:=0) (i:=0+0) rfl rfl];unfold fA at hv;refine zzr (by omega) _ _ _ _ ?_;rintro _ rfl _;simp only [zH,zP];rw [dz.ret];exact hK _ _ _ _ _ H1 (zY rfl) rfl
theorem zb7 {z:Int} (hz:z.natAbs<9223372036854775808):(fF z).length<=100:=by
 have h:=vE (n:=z.natAbs) (k:=3) (by omega);unfold fF;split <;> simp <;> omega
theorem zwg {v:AV} {q:Rat} (hv:jE v q) (hn:q.num.natAbs<9223372036854775808) (hd:q.den<9223372036854775808):Pure Tryz.prog B 97 [v] (· = .str (qp q)):=by
 obtain ⟨s,w,s',w',rfl,i1,i2⟩:=hv;refine zX λh nx K H0 hK=>zM zO yD 1000 λhf => ?_;rw [F97.go,F97.t9,zA,F97.zx];refine H0.box (l:=[s,w,s',w']) rfl λpa h1 nx1 H1 => ?_;have l1:∀ op:AV->OP,zG 2 (.ptr pa (0+0)) h1 op=op (.agg [s,w]):=λop=>H1.gu (k:=0) (off:=0+0) rfl (by simp) rfl;have l2:∀ op:AV->OP,zG 2 (.ptr pa (0+2)) h1 op=op (.agg [s',w']):=λop=>H1.gu (k:=0) (off:=0+2) rfl (by simp) rfl;rw [zA,zA,F97.zu,H1.zn (k:=0) (n:=4) rfl rfl];refine vB ⟨_,_,_,_,rfl,i1,i2⟩ _ _ _ _ ?_;rintro _ rfl _;rw [zB,F97.v3];by_cases c:q.den=1
 .rw [Zac c,zD,zA,F97.je,sFx,l1];refine zdd ⟨_,_,rfl,i1⟩ hn _ _ _ _ ?_;rintro _ rfl _;simp only [zH,zP];rw [F97.ret];exact hK _ _ _ _ _ H1 (zY rfl) (by unfold qp;rw [if_pos c,Zbj])
 .rw [Zab c,zC,zE,zA,F97.qj,sFx,l1,sFx,l2];refine zdd ⟨_,_,rfl,i1⟩ hn _ _ _ _ ?_;rintro _ rfl _;have t1:=zb7 hn;have t2:=zb7 (z:=(q.den:Int)) (by omega);have a1:∀ K:AV->OP,za .add .str (.str (fF q.num)) (.str [47]) K=K (.str (fF q.num++[47])):=λK=>tCat (by simp;omega);simp only [l2,zF,sFx,a1];refine zdd ⟨_,_,rfl,i2⟩ (by omega) _ _ _ _ ?_;rintro _ rfl _;rw [tCat (by simp;omega)];simp only [zH,zP];rw [F97.ret];exact hK _ _ _ _ _ H1 (zY rfl) (by unfold qp;rw [if_neg c,Zbi];rfl)
theorem rat0:((0:Int):Rat)=0:=rfl
theorem rat1:((1:Int):Rat)=1:=rfl
theorem pM (n:Nat) (z:List AV):(bQ n z).length=n*z.length:=by
 induction n with
 | zero=>show ([]:List AV).length=_;rw [Nat.zero_mul];rfl
 | succ n ih=>show (z++bQ n z).length=_;rw [Zae,ih,Zaz,Zcl,Zdb]
theorem zau {h0 h:T Blk} {nx p:Pa} {L:List Ob} {n:Nat} {K:Kw Prop} (H:Hp h0 h nx L) (hn:n<=1000) (hK:∀ id c h' nx',fI c (List.replicate n 0)->Hp h0 h' nx' (.arr id c::L)->K (rwV n id) h' nx'=.ok True):(CS Tryz.prog B).fn 105 p [I (n:Int)] h nx K=.ok True:=by
 refine zM zO yD 2000 λhf => ?_;rw [jg.go,jg.t20,zA,jg.zx,zA,jg.zu];refine H.mkN (n:=n) (c:=n) rfl rfl (Zaf _) (by omega) (by omega) λid h1 nx1 H1 => ?_;rw [zA,zA,jg.je,yW,zJ];refine jg.zdx (λm x5 h' nx'=>∃ (i:Nat) (c:List AV),x5=I (i:Int)/\m+i=n/\c.length=n*4/\(∀ j,j<i->sP c j 0)/\Hp h0 h' nx' (.arr id c::L)) (m:=n) (by omega) ⟨0,_,rfl,rfl,pM _ _,λj hj=>by omega,H1⟩ ?_;rintro m z3 z5 z6 h3 nx3 R ⟨i,c,rfl,hm,hc,hall,H3⟩ hR;rw [jg.t12,zA,jg.bq,ji,zA,zB,jg.v6];by_cases ci:i<n
 .rw [Zac (by omega),zD,zE,zA,zJ,zA,jg.mg,jg.qj];refine zb3 (by unfold fA;omega) _ _ _ _ ?_;rintro _ ⟨s,w,s',w',rfl,i1,i2⟩ _;rw [rat0] at i1 i2;rw [sQ (j:=i) rfl ci];refine H3.sj (k:=0) (off:=i*4) rfl (by omega) rfl λh4 H4 => ?_;rw [jg.nu,gq (by omega)];refine hR (m-1) _ _ _ _ _ (by omega) ⟨i+1,_,by congr 1,by omega,by rw [xA (by simp;omega)];exact hc,λj hj => ?_,H4⟩;by_cases e:j=i
  .subst e;exact sP.same (by omega) i1 i2
  .exact sP.other (by omega) e (hall j (by omega))
 .rw [Zab (by omega),zC,yA,yF,zA,jg.sJ];simp only [zH,zP];rw [jg.ret];refine hK id c _ _ ⟨by rw [Zav];exact hc,λj x hx => ?_⟩ H3;have hj:=(List.getElem?_eq_some_iff.1 hx).1;rw [Zav] at hj;rw [List.getElem?_replicate,if_pos hj] at hx;obtain rfl:=Option.some.inj hx;exact hall j (by omega)
def nY (n:Nat) (l:List Int):List Rat:=l.foldl (λq c=>q.set c.toNat 1) (List.replicate n 0)
theorem mV (n:Nat) (l:List Int) (c:Int):nY n (l++[c])=(nY n l).set c.toNat 1:=by unfold nY;rw [List.foldl_append];rfl
theorem dQ:∀ (l:List Int) (q:List Rat),(l.foldl (λq c=>q.set c.toNat 1) q).length=q.length
 | [],_=>rfl
 | c::l,q=>by rw [Zdq,dQ l,Zbc]
theorem yQ (n:Nat) (l:List Int):(nY n l).length=n:=by unfold nY;rw [dQ,Zav]
theorem xG {h0 h:T Blk} {nx p:Pa} {L:List Ob} {n:Nat} {l:List Int} {K:Kw Prop} (H:Hp h0 h nx L) (hn:n<=1000) (hl:l.length<=1000) (hr:∀ c∈l,0<=c/\c<(n:Int)) (hK:∀ id c h' nx',fI c (nY n l)->Hp h0 h' nx' (.arr id c::L)->K (rwV n id) h' nx'=.ok True):(CS Tryz.prog B).fn 104 p [I (n:Int),encI l] h nx K=.ok True:=by
 refine zM zO yD 2000 λhf => ?_;rw [jf.go,jf.t20,zA,jf.zx,zA,jf.zu];refine zau H hn λid c h1 nx1 hc H1 => ?_;rw [zA,zA,jf.je,zV,zJ];refine jf.zdx (λm x7 h' nx'=>∃ (i:Nat) (c:List AV),x7=I (i:Int)/\m+i=l.length/\fI c (nY n (l.take i))/\Hp h0 h' nx' (.arr id c::L)) (m:=l.length) (by omega) ⟨0,c,rfl,rfl,hc,H1⟩ ?_;rintro m z4 z7 z8 h3 nx3 R ⟨i,c,rfl,hm,hc,H3⟩ hR;rw [jf.t12,zA,jf.bq,ji,zA,zB,jf.v8];by_cases ci:i<l.length
 .have hx:l[i]? = some l[i]:=List.getElem?_eq_getElem ci;have hb:=hr _ (Zbb ci);rw [Zac (by omega),zD,zE,zA,zJ,zA,jf.mg,bR rfl ci,ldL (sV hx),jf.qj];refine zb3 (by unfold fA;omega) _ _ _ _ ?_;rintro _ ⟨s,w,s',w',rfl,i1,i2⟩ _;rw [rat1] at i1 i2;have hcl:=hc.1;rw [yQ] at hcl;rw [sQ (j:=l[i].toNat) (by omega) (by omega)];refine H3.sj (k:=0) (off:=l[i].toNat*4) rfl (by omega) rfl λh4 H4 => ?_;rw [jf.nu,gq (by omega)];refine hR (m-1) _ _ _ _ _ (by omega) ⟨i+1,_,by congr 1,by omega,?_,H4⟩;rw [Zau,hx,Zch,mV];exact hc.put (by rw [yQ];omega) i1 i2
 .rw [Zab (by omega),zC,yA,yF,zA,jf.sJ];simp only [zH,zP];rw [jf.ret];rw [Zap (by omega)] at hc;exact hK id c _ _ hc H3
def jU (b:Rat) (r o:List Rat):List Rat:=List.zipWith (λx y=>x-b*y) r o
theorem pget {l e:List Rat} {c:Nat} {q:Rat} (hle:e.length=l.length) (hq:l[c]? = some q):(e.take c++l.drop c)[c]? = some q:=by
 have hc:=(List.getElem?_eq_some_iff.1 hq).1;rw [List.getElem?_append_right (by rw [Zal];omega),Zal,List.getElem?_drop,show c+(c-min c e.length)=c by omega];exact hq
theorem zt5 {l e:List Rat} {c:Nat} {q:Rat} (hle:e.length=l.length) (hq:e[c]? = some q):(e.take c++l.drop c).set c q=e.take (c+1)++l.drop (c+1):=by
 have hc:=(List.getElem?_eq_some_iff.1 hq).1;rw [Zbl (show c<l.length by omega),set_mid (by rw [Zal];omega),Zau,hq];simp
theorem zt6 {l e:List Rat} {c:Nat} {q:Rat} (hle:e.length=l.length) (hq:e[c]? = some q) (hl:l[c]? = some q):e.take c++l.drop c=e.take (c+1)++l.drop (c+1):=by
 have hc:=(List.getElem?_eq_some_iff.1 hq).1;have h1:l[c]'(by omega)=q:=by rw [List.getElem?_eq_getElem (by omega)] at hl;exact Option.some.inj hl
 rw [Zbl (show c<l.length by omega),Zau,hq,h1];simp
theorem pU {h0 h:T Blk} {nx p r o:Pa} {L:List Ob} {kr ko n M N P R:Nat} {cr co:List AV} {qr qo:List Rat} {v:AV} {b:Rat} {K:Kw Prop} (H:Hp h0 h nx L) (hkr:L[kr]? = some (.arr r cr)) (hko:L[ko]? = some (.arr o co)) (hne:ko≠kr) (hr:fI cr qr) (ho:fI co qo) (hlr:qr.length=n) (hlo:qo.length=n) (hn:n<=1000) (hv:jE v b) (hb:xg M b) (hqr:∀ x∈qr,xg P x) (hqo:∀ x∈qo,xg N x) (hqp:∀ x∈qo,xg R (b*x)) (hMN:M*N<=9223372036854775807) (hPR:2*(P*R)<=9223372036854775807)
  (hK:∀ c h' nx',fI c (jU b qr qo)->Hp h0 h' nx' (L.set kr (.arr r c))->K (.tup []) h' nx'=.ok True):(CS Tryz.prog B).fn 106 p [rwV n r,v,rwV n o] h nx K=.ok True:=by
 refine zM zO yD 2000 λhf => ?_;obtain ⟨sb,wb,sb',wb',rfl,b1,b2⟩:=hv;have hkl:=(List.getElem?_eq_some_iff.1 hkr).1;have hE:(jU b qr qo).length=qr.length:=by unfold jU;rw [Zfs];omega
 rw [jm.go,jm.t18,zA,jm.zx];refine H.box (l:=[sb,wb,sb',wb']) rfl λbb h1 nx1 H1 => ?_;rw [zA,jm.zu,yW,zJ]
 refine jm.zds (λm x8 h' nx'=>∃ (i:Nat) (c:List AV),x8=I (i:Int)/\m+i=n/\fI c ((jU b qr qo).take i++qr.drop i)/\Hp h0 h' nx' (.arr bb [sb,wb,sb',wb']::L.set kr (.arr r c))) (m:=n) (by omega) ⟨0,cr,rfl,rfl,by rw [Zdi,Zbv,Zdg];exact hr,by
  have:L.set kr (.arr r cr)=L:=by
   rw [List.getElem?_eq_getElem hkl] at hkr;rw [<- Option.some.inj hkr,List.set_getElem_self]
  rw [this];exact H1⟩ ?_
 rintro m z4 z5 z8 z9 z10 h3 nx3 R ⟨i,c,rfl,hm,hc,H3⟩ hR;rw [jm.t14,zA,jm.je,ji,zA,zB,jm.v9];by_cases ci:i<n
 .have hx:qo[i]? = some qo[i]:=List.getElem?_eq_getElem (by omega);have hy:qr[i]? = some qr[i]:=List.getElem?_eq_getElem (by omega);have hz:(jU b qr qo)[i]? = some (qr[i]-b*qo[i]):=by unfold jU;rw [List.getElem?_zipWith,hy,hx]
  have mo:=Zbb (l:=qo) (n:=i) (by omega);have mr:=Zbb (l:=qr) (n:=i) (by omega);obtain ⟨cs,e1,e2,_,fo⟩:=ho.get hx;obtain ⟨cs2,e3,e4,hcj,fr⟩:=hc.get (pget hE hy);have hko3:(Ob.arr bb [sb,wb,sb',wb']::L.set kr (.arr r c))[ko+1]? = some (.arr o co):=by
   show (L.set kr (.arr r c))[ko]? = _;rw [List.getElem?_set_ne (by omega)];exact hko
  have hkr3:(Ob.arr bb [sb,wb,sb',wb']::L.set kr (.arr r c))[kr+1]? = some (.arr r c):=by
   show (L.set kr (.arr r c))[kr]? = _;rw [List.getElem?_set_self hkl]
  obtain ⟨so,wo,so',wo',e5,o1,o2⟩:=fo;obtain rfl:=AV.agg.inj e5;rw [Zac (by omega),zD,zE,zA,zJ,zA,jm.fD,sQ (j:=i) rfl ci,H3.gu hko3 e2 e1];refine H3.alloc λxb h4 nx4 H4 => ?_;refine H4.yx (l2:=[so,wo,so',wo']) (k:=0) rfl rfl rfl λh5 H5 => ?_;rw [zA,jm.mg,H5.zn (k:=0) (n:=4) rfl rfl];refine dB ⟨_,_,_,_,rfl,o1,o2⟩ _ _ _ _ ?_;rintro _ rfl _;rw [di,zB,jm.v10];by_cases d:qo[i]=0
  .have d2:qr[i]-b*qo[i]=qr[i]:=by rw [d,Zbk,Rat.sub_eq_add_neg,Rat.neg_zero,Zew]
   rw [Zac (fH.2 (Rat.num_eq_zero.2 d)),Zaj,zC,zE,jm.mh,gq (by omega)];rw [d2] at hz;exact hR (m-1) _ _ _ _ _ _ _ (by omega) ⟨i+1,c,by congr 1,by omega,by rw [<- zt6 hE hz hy];exact hc,H5.drop⟩
  .rw [Zab (λq=>d (Rat.num_eq_zero.1 (fH.1 q))),Zao,zD,jm.qj];have lr:∀ op:AV->OP,zG 4 (.ptr r (i*4)) h5 op=op (.agg cs2):=λop=>H5.gu (k:=kr+2) hkr3 e4 e3;have lb:∀ op:AV->OP,zG 4 (.ptr bb 0) h5 op=op (.agg [sb,wb,sb',wb']):=λop=>H5.zn (k:=1) (n:=4) rfl rfl;have lx:∀ op:AV->OP,zG 4 (.ptr xb 0) h5 op=op (.agg [so,wo,so',wo']):=λop=>H5.zn (k:=0) (n:=4) rfl rfl;have ix:∀ op:AV->OP,zN 4 (rwV n r) (I (i:Int)) op=op (.ptr r (i*4)):=λop=>sQ (j:=i) rfl ci;simp only [ix,lr,lb,lx];refine zfp ⟨_,_,_,_,rfl,b1,b2⟩ ⟨_,_,_,_,rfl,o1,o2⟩ hb (hqo _ mo) hMN _ _ _ _ ?_;rintro v5 f5 _;simp only [lr,zF];refine zkm fr f5 (hqr _ mr) (hqp _ mo) hPR _ _ _ _ ?_;rintro _ ⟨s6,w6,s6',w6',rfl,i1,i2⟩ _;refine H5.sj (k:=kr+2) (off:=i*4) hkr3 e4 rfl λh6 H6 => ?_;rw [jm.mh,gq (by omega)];refine hR (m-1) _ _ _ _ _ _ _ (by omega) ⟨i+1,j3 c (i*4) [s6,w6,s6',w6'],by congr 1,by omega,?_,?_⟩
   .rw [<- zt5 hE hz];exact hc.put hcj i1 i2
   .exact (H6.cast (show ((Ob.arr xb [I 0,.zb,I 0,.zb]::Ob.arr bb [sb,wb,sb',wb']::L.set kr (.arr r c)).set 0 (Ob.arr xb [so,wo,so',wo'])).set (kr+2) (.arr r (j3 c (i*4) [s6,w6,s6',w6']))=Ob.arr xb [so,wo,so',wo']::Ob.arr bb [sb,wb,sb',wb']::L.set kr (.arr r (j3 c (i*4) [s6,w6,s6',w6'])) by
     show Ob.arr xb _::Ob.arr bb _::(L.set kr (.arr r c)).set kr _=_;rw [Zdd])).drop
 .rw [Zab (by omega),zC,yA,yF];rw [jm.ret];rw [Zap (by omega),Zby (by omega),Zbj] at hc;exact hK c _ _ hc H3.drop
def yY (b:Rat) (r:List Rat):List Rat:=r.map λx=>x*b
theorem pH {h0 h:T Blk} {nx p r:Pa} {L:List Ob} {kr n M N:Nat} {cr:List AV} {qr:List Rat} {v:AV} {b:Rat} {K:Kw Prop} (H:Hp h0 h nx L) (hkr:L[kr]? = some (.arr r cr)) (hr:fI cr qr) (hlr:qr.length=n) (hn:n<=1000) (hv:jE v b) (hb:xg M b) (hqr:∀ x∈qr,xg N x) (hMN:N*M<=9223372036854775807)
  (hK:∀ c h' nx',fI c (yY b qr)->Hp h0 h' nx' (L.set kr (.arr r c))->K (.tup []) h' nx'=.ok True):(CS Tryz.prog B).fn 111 p [rwV n r,v] h nx K=.ok True:=by
 refine zM zO yD 2000 λhf => ?_;obtain ⟨sb,wb,sb',wb',rfl,b1,b2⟩:=hv;have hkl:=(List.getElem?_eq_some_iff.1 hkr).1;have hE:(yY b qr).length=qr.length:=by unfold yY;rw [Zai]
 rw [jo.go,jo.t18,zA,jo.zx];refine H.box (l:=[sb,wb,sb',wb']) rfl λbb h1 nx1 H1 => ?_;rw [zA,jo.zu,yW,zJ]
 refine jo.zds (λm x7 h' nx'=>∃ (i:Nat) (c:List AV),x7=I (i:Int)/\m+i=n/\fI c ((yY b qr).take i++qr.drop i)/\Hp h0 h' nx' (.arr bb [sb,wb,sb',wb']::L.set kr (.arr r c))) (m:=n) (by omega) ⟨0,cr,rfl,rfl,by rw [Zdi,Zbv,Zdg];exact hr,by
  have:L.set kr (.arr r cr)=L:=by
   rw [List.getElem?_eq_getElem hkl] at hkr;rw [<- Option.some.inj hkr,List.set_getElem_self]
  rw [this];exact H1⟩ ?_
 rintro m z3 z4 z7 z8 z9 h3 nx3 R ⟨i,c,rfl,hm,hc,H3⟩ hR;rw [jo.t14,zA,jo.je,ji,zA,zB,jo.v8];by_cases ci:i<n
 .have hy:qr[i]? = some qr[i]:=List.getElem?_eq_getElem (by omega);have hz:(yY b qr)[i]? = some (qr[i]*b):=by unfold yY;rw [List.getElem?_map,hy];rfl
  have mr:=Zbb (l:=qr) (n:=i) (by omega);obtain ⟨cs2,e3,e4,hcj,fr⟩:=hc.get (pget hE hy);have hkr3:(Ob.arr bb [sb,wb,sb',wb']::L.set kr (.arr r c))[kr+1]? = some (.arr r c):=by
   show (L.set kr (.arr r c))[kr]? = _;rw [List.getElem?_set_self hkl]
  obtain ⟨so,wo,so',wo',e5,o1,o2⟩:=fr;obtain rfl:=AV.agg.inj e5;rw [Zac (by omega),zD,zE,zA,zJ,zA,jo.fD,sQ (j:=i) rfl ci,H3.gu hkr3 e4 e3];refine H3.alloc λxb h4 nx4 H4 => ?_;refine H4.yx (l2:=[so,wo,so',wo']) (k:=0) rfl rfl rfl λh5 H5 => ?_;rw [zA,jo.mg,H5.zn (k:=0) (n:=4) rfl rfl];refine dB ⟨_,_,_,_,rfl,o1,o2⟩ _ _ _ _ ?_;rintro _ rfl _;rw [di,zB,jo.v9];by_cases d:qr[i]=0
  .have d2:qr[i]*b=qr[i]:=by rw [d,Zcs]
   rw [Zac (fH.2 (Rat.num_eq_zero.2 d)),Zaj,zC,zE,jo.mh,gq (by omega)];rw [d2] at hz;exact hR (m-1) _ _ _ _ _ _ _ (by omega) ⟨i+1,c,by congr 1,by omega,by rw [<- zt6 hE hz hy];exact hc,H5.drop⟩
  .rw [Zab (λq=>d (Rat.num_eq_zero.1 (fH.1 q))),Zao,zD,jo.qj,H5.zn (k:=0) (n:=4) rfl rfl,H5.zn (k:=1) (n:=4) rfl rfl];refine zfp ⟨_,_,_,_,rfl,o1,o2⟩ ⟨_,_,_,_,rfl,b1,b2⟩ (hqr _ mr) hb hMN _ _ _ _ ?_;rintro _ ⟨s6,w6,s6',w6',rfl,i1,i2⟩ _;rw [sQ (j:=i) rfl ci];refine H5.sj (k:=kr+2) (off:=i*4) hkr3 e4 rfl λh6 H6 => ?_;rw [jo.mh,gq (by omega)];refine hR (m-1) _ _ _ _ _ _ _ (by omega) ⟨i+1,j3 c (i*4) [s6,w6,s6',w6'],by congr 1,by omega,?_,?_⟩
   .rw [<- zt5 hE hz];exact hc.put hcj i1 i2
   .exact (H6.cast (show ((Ob.arr xb [I 0,.zb,I 0,.zb]::Ob.arr bb [sb,wb,sb',wb']::L.set kr (.arr r c)).set 0 (Ob.arr xb [so,wo,so',wo'])).set (kr+2) (.arr r (j3 c (i*4) [s6,w6,s6',w6']))=Ob.arr xb [so,wo,so',wo']::Ob.arr bb [sb,wb,sb',wb']::L.set kr (.arr r (j3 c (i*4) [s6,w6,s6',w6'])) by
     show Ob.arr xb _::Ob.arr bb _::(L.set kr (.arr r c)).set kr _=_;rw [Zdd])).drop
 .rw [Zab (by omega),zC,yA,yF];rw [jo.ret];rw [Zap (by omega),Zby (by omega),Zbj] at hc;exact hK c _ _ hc H3.drop
end Go.Ev
namespace Go.Ev
open Go Go.Proofs
def Dn (t M:Nat) (q:Rat):Prop:=∃ z:Int,q*((t:Int):Rat)=(z:Rat)/\z.natAbs<=M
theorem wM {t:Int} (h:t≠0):(t:Rat)≠0:=λe=>by
 have:=congrArg Rat.num e;rw [Zfl] at this;exact h this
theorem Dn.nm {t M:Nat} {q:Rat} (ht:1<=t) (htM:t<=M) (h:Dn t M q):xg M q:=by
 obtain ⟨z,e,hz⟩:=h;have h0:((t:Int):Rat)≠0:=wM (by omega);have eq:q=Rat.divInt z (t:Int):=by rw [Zgb];grind
 obtain ⟨d1,d2⟩:=qF (n:=z) (d:=(t:Int)) (by omega);have hg:0<(Int.gcd z (t:Int):Int):=by have:=Int.gcd_pos_of_ne_zero_right z (show (t:Int)≠0 by omega);omega
 have hg1:1<=Int.gcd z (t:Int):=by omega
 refine ⟨?_,?_⟩
 .rw [eq,d1,Zeb (Zfg ..)];exact Zas (Zcz _ _) hz
 .have:((Rat.divInt z (t:Int)).den:Int).natAbs<=M:=by
   rw [d2,Zeb (Zfa ..)];exact Zas (Zcz _ _) (by omega)
  rw [eq];exact this
theorem Dn.mono {t M N:Nat} {q:Rat} (h:Dn t M q) (hMN:M<=N):Dn t N q:=by
 obtain ⟨z,e,hz⟩:=h;exact ⟨z,e,Zas hz hMN⟩
theorem Dn.zero (t M:Nat):Dn t M 0:=⟨0,by grind,by simp⟩
theorem Dn.sub {t M N:Nat} {p q:Rat} (hp:Dn t M p) (hq:Dn t N q):Dn t (M+N) (p-q):=by
 obtain ⟨z,e,hz⟩:=hp;obtain ⟨w,f,hw⟩:=hq;refine ⟨z-w,by rw [Rat.intCast_sub];grind,?_⟩;have:=Int.natAbs_sub_le z w;omega
theorem Dn.mul {t s M N:Nat} {p q:Rat} (hp:Dn t M p) (hq:Dn s N q):Dn (t*s) (M*N) (p*q):=by
 obtain ⟨z,e,hz⟩:=hp;obtain ⟨w,f,hw⟩:=hq;refine ⟨z*w,?_,?_⟩
 .rw [Zcm,show ((t*s:Nat):Int)=(t:Int)*(s:Int) by simp,Zcm];grind
 .rw [Zcf];exact Zbg hz hw
theorem Dn.scale {t M:Nat} (s:Nat) {p:Rat} (hp:Dn t M p):Dn (t*s) (M*s) p:=by
 obtain ⟨z,e,hz⟩:=hp;refine ⟨z*(s:Int),?_,?_⟩
 .rw [Zcm,show ((t*s:Nat):Int)=(t:Int)*(s:Int) by simp,Zcm];grind
 .rw [Zcf,Zbr];exact Zax _ hz
def Sg (b:Rat):Prop:=b = -1\/b=0\/b=1
theorem Sg.dn {b:Rat} (h:Sg b) {t M:Nat} (hM:t<=M):Dn t M b:=by
 rcases h with rfl | rfl | rfl
 .exact ⟨-(t:Int),by rw [Zbw];grind,by omega⟩
 .exact Dn.zero _ _
 .exact ⟨(t:Int),by grind,by omega⟩
theorem Sg.mul {b q:Rat} (h:Sg b) {t M:Nat} (hq:Dn t M q):Dn t M (b*q):=by
 obtain ⟨z,e,hz⟩:=hq;rcases h with rfl | rfl | rfl
 .exact ⟨-z,by rw [Zbw];grind,by omega⟩
 .rw [Zcs];exact Dn.zero _ _
 .exact ⟨z,by grind,hz⟩
abbrev at' (q:List Rat) (j:Nat):Rat:=q.getD j 0
theorem uD {q:List Rat} {j:Nat} (h:j<q.length):q[j]? = some (at' q j):=by
 rw [at',Zaa,List.getElem?_eq_getElem h];rfl
theorem j5 {q:List Rat} {j:Nat} (h:q.length<=j):at' q j=0:=by
 rw [at',Zaa,List.getElem?_eq_none h];rfl
theorem vI {q:List Rat} {x:Rat} (h:x∈q):∃ j,j<q.length/\x=at' q j:=by
 obtain ⟨j,hj⟩:=List.mem_iff_getElem?.1 h;have hl:=(List.getElem?_eq_some_iff.1 hj).1;rw [uD hl] at hj;exact ⟨j,hl,(Option.some.inj hj).symm⟩
theorem jZ {b:Rat} {r o:List Rat} (h:r.length=o.length):(jU b r o).length=r.length:=by
 unfold jU;rw [Zfs];omega
theorem jD {b:Rat} {r o:List Rat} (h:r.length=o.length) (j:Nat):at' (jU b r o) j=at' r j-b*at' o j:=by
 by_cases hj:j<r.length
 .have h1:=uD (q:=jU b r o) (j:=j) (by rw [jZ h];exact hj);unfold jU at h1;rw [List.getElem?_zipWith,uD hj,uD (q:=o) (by omega)] at h1;exact (Option.some.inj h1).symm
 .rw [j5 (by rw [jZ h];omega),j5 (by omega),j5 (by omega)];grind
theorem jW {b:Rat} {r:List Rat}:(yY b r).length=r.length:=by unfold yY;rw [Zai]
theorem gR {b:Rat} {r:List Rat} (j:Nat):at' (yY b r) j=at' r j*b:=by
 by_cases hj:j<r.length
 .have h1:=uD (q:=yY b r) (j:=j) (by rw [jW];exact hj);unfold yY at h1;rw [List.getElem?_map,uD hj] at h1;exact (Option.some.inj h1).symm
 .rw [j5 (by rw [jW];omega),j5 (by omega),Zcs]
def dot:List Rat->List Rat->Rat
 | a::q,b::f=>a*b+dot q f
 | _,_=>0
theorem uK (b:Rat):∀ (r o f:List Rat),r.length=o.length->dot (jU b r o) f=dot r f-b*dot o f
 | [],[],f,_=>by unfold jU;simp [dot];grind
 | x::r,y::o,[],_=>by unfold jU;simp [dot];grind
 | x::r,y::o,z::f,h=>by
  have ih:=uK b r o f (by simpa using h);unfold jU at ih ⊢;rw [List.zipWith_cons_cons,dot,dot,dot,ih];grind
 | [],_::_,_,h=>by simp at h
 | _::_,[],_,h=>by simp at h
theorem u9 (b:Rat):∀ (r f:List Rat),dot (yY b r) f=b*dot r f
 | [],f=>by simp [yY,dot]
 | x::r,[]=>by simp [yY,dot]
 | x::r,z::f=>by
  have ih:=u9 b r f;unfold yY at ih ⊢;rw [Zds,dot,dot,ih];grind
def sH:List (List Rat×Nat)->List Rat->List Rat
 | [],r=>r
 |(q,p)::l,r=>sH l (jU (at' r p) r q)
theorem gS (q:List Rat) (p:Nat):∀ (l:List (List Rat×Nat)) (r:List Rat),sH (l++[(q,p)]) r=jU (at' (sH l r) p) (sH l r) q
 | [],r=>rfl
 |(q',p')::l,r=>by rw [Zbp,sH,gS q p l,sH]
structure St (n t M:Nat) (Q:List (List Rat)) (ps:List Nat):Prop where
 len:ps.length=Q.length
 row:∀ q∈Q,q.length=n
 den:∀ q∈Q,∀ j,Dn t M (at' q j)
 rng:∀ p∈ps,p<n
 one:∀ a b,a<Q.length->b<Q.length->at' (Q.getD a []) (ps.getD b 0)=if a=b then 1 else 0
 t1:1<=t
 tM:t<=M
theorem St.nil (n:Nat):St n 1 1 [] []:=⟨rfl,by simp,by simp,by simp,λa b h=>by simp at h,by omega,by omega⟩
theorem gN {α:Type} {l:List α} {i:Nat} {d:α} (h:i<l.length):l[i]? = some (l.getD i d):=by
 rw [Zaa,List.getElem?_eq_getElem h];rfl
theorem yI {α:Type} {l:List α} {i:Nat} {d:α} (h:i<l.length):l.getD i d∈l:=Zad (gN h)
abbrev nU (Q:List (List Rat)) (ps:List Nat):List (List Rat×Nat):=List.zip Q ps
theorem uA {Q:List (List Rat)} {ps:List Nat} {k:Nat} (hl:ps.length=Q.length) (hk:k<Q.length):(nU Q ps).take (k+1)=(nU Q ps).take k++[(Q.getD k [],ps.getD k 0)]:=by
 have h1:Q[k]? = some (Q.getD k []):=gN hk;have h2:ps[k]? = some (ps.getD k 0):=gN (by omega);have h3:(nU Q ps)[k]? = some (Q.getD k [],ps.getD k 0):=List.getElem?_zip_eq_some.2 ⟨h1,h2⟩;rw [Zau,h3];rfl
structure Rk (n t M:Nat) (Q:List (List Rat)) (ps:List Nat) (r0:List Rat) (k:Nat) (r:List Rat):Prop where
 eq:r=sH ((nU Q ps).take k) r0
 len:r.length=n
 den:∀ j,Dn t (M+k*M) (at' r j)
 late:∀ b,k<=b->b<Q.length->at' r (ps.getD b 0)=at' r0 (ps.getD b 0)
 done:∀ b,b<k->b<Q.length->at' r (ps.getD b 0)=0
theorem Rk.zero {n t M:Nat} {Q:List (List Rat)} {ps:List Nat} {r0:List Rat} (hS:St n t M Q ps) (hl:r0.length=n) (hs:∀ j,Sg (at' r0 j)):Rk n t M Q ps r0 0 r0 :=
 ⟨rfl,hl,λj=>(hs j).dn (by have:=hS.tM;omega),λb _ _=>rfl,λb h=>by omega⟩
theorem Rk.next {n t M k:Nat} {Q:List (List Rat)} {ps:List Nat} {r0 r:List Rat} (hS:St n t M Q ps) (hs:∀ j,Sg (at' r0 j)) (h:Rk n t M Q ps r0 k r) (hk:k<Q.length):Rk n t M Q ps r0 (k+1) (jU (at' r (ps.getD k 0)) r (Q.getD k [])):=by
 have hq:=yI (d:=[]) hk;have hql:=hS.row _ hq;have hll:r.length=(Q.getD k []).length:=by rw [h.len,hql]
 have hb:Sg (at' r (ps.getD k 0)):=by rw [h.late k (Zaf _) hk];exact hs _
 refine ⟨by rw [uA hS.len hk,gS,<- h.eq],by rw [jZ hll];exact h.len,λj => ?_,λb h1 h2 => ?_,λb h1 h2 => ?_⟩
 .rw [jD hll];have:=(h.den j).sub (hb.mul (hS.den _ hq j));exact this.mono (by rw [Zaz];omega)
 .rw [jD hll,hS.one k b hk h2,if_neg (by omega),Zbk,h.late b (by omega) h2];grind
 .rw [jD hll,hS.one k b hk h2];by_cases e:b=k
  .subst e;rw [if_pos rfl,Rat.mul_one];grind
  .rw [if_neg (by omega),Zbk,h.done b (by omega) h2];grind
def uQ (Q:List (List Rat)) (p:Nat) (r:List Rat):List (List Rat):=Q.map λo=>jU (at' o p) o r
theorem zwh {t N:Nat} {v:Rat} (ht:1<=t) (hv:v≠0) (h:Dn t N v):∃ s:Nat,1<=s/\s<=N/\Dn s t v⁻¹/\∀ {x:Rat} {R:Nat},Dn t R x->Dn s R (x*v⁻¹):=by
 obtain ⟨z,e,hz⟩:=h;have ht0:((t:Int):Rat)≠0:=wM (by omega);have hz0:z≠0:=λq=>by subst q;rw [show ((0:Int):Rat)=0 from rfl] at e;grind
 have hzr:(z:Rat)≠0:=wM hz0;refine ⟨z.natAbs,by omega,hz,?_,λ{x R} hx => ?_⟩
 .by_cases c:0<z
  .refine ⟨(t:Int),?_,by omega⟩;rw [show ((z.natAbs:Nat):Int)=z by omega];grind
  .refine ⟨-(t:Int),?_,by omega⟩;rw [show ((z.natAbs:Nat):Int) = -z by omega,Zbw,Zbw];grind
 .obtain ⟨w,f,hw⟩:=hx;by_cases c:0<z
  .refine ⟨w,?_,hw⟩;rw [show ((z.natAbs:Nat):Int)=z by omega];grind
  .refine ⟨-w,?_,by omega⟩;rw [show ((z.natAbs:Nat):Int) = -z by omega,Zbw,Zbw];grind
structure Nw (n t M N s:Nat) (Q:List (List Rat)) (ps:List Nat) (p:Nat) (r:List Rat):Prop where
 len:r.length=n
 den:∀ j,Dn s N (at' r j)
 one:at' r p=1
 out:∀ b,b<Q.length->at' r (ps.getD b 0)=0
 p1:p<n
 s1:1<=s
 sN:s<=N
theorem Nw.less {n t M N s p:Nat} {Q:List (List Rat)} {ps:List Nat} {r:List Rat} (hS:St n t M Q ps) (h:Nw n t M N s Q ps p r) {o:List Rat} (ho:o∈Q) :
  (∀ j,Dn (t*s) (M*N) (at' o p*at' r j))/\(∀ j,Dn (t*s) (M*s+M*N) (at' (jU (at' o p) o r) j))/\(jU (at' o p) o r).length=n:=by
 have hl:o.length=r.length:=by rw [hS.row o ho,h.len]
 refine ⟨λj=>(hS.den o ho p).mul (h.den j),λj => ?_,by rw [jZ hl];exact hS.row o ho⟩;rw [jD hl];exact ((hS.den o ho j).scale s).sub ((hS.den o ho p).mul (h.den j))
theorem St.next {n t M N s p:Nat} {Q:List (List Rat)} {ps:List Nat} {r:List Rat} (hS:St n t M Q ps) (h:Nw n t M N s Q ps p r):St n (t*s) (M*N+M*N) (uQ Q p r++[r]) (ps++[p]):=by
 have hnl:(uQ Q p r).length=Q.length:=by unfold uQ;rw [Zai]
 have hM1:1<=M:=Zas hS.t1 hS.tM;have mM:M*s<=M*N:=Zdn _ h.sN;refine ⟨by rw [Zae,Zae,hnl,hS.len];rfl,λq hq => ?_,λq hq j => ?_,λx hx => ?_,λa b ha hb => ?_,Zbg hS.t1 h.s1,?_⟩
 .rcases List.mem_append.1 hq with hq | hq
  .obtain ⟨o,ho,rfl⟩:=List.mem_map.1 hq;exact (h.less hS ho).2.2
  .obtain rfl:=List.mem_singleton.1 hq;exact h.len
 .rcases List.mem_append.1 hq with hq | hq
  .obtain ⟨o,ho,rfl⟩:=List.mem_map.1 hq;exact ((h.less hS ho).2.1 j).mono (by omega)
  .obtain rfl:=List.mem_singleton.1 hq;have:=(h.den j).scale t;rw [Zbo s t] at this;have e:=Zdn N hS.tM;rw [Zbo N M] at e;exact this.mono (by omega)
 .rcases List.mem_append.1 hx with hx | hx
  .exact hS.rng x hx
  .obtain rfl:=List.mem_singleton.1 hx;exact h.p1
 .rw [Zae,hnl,Zbf] at ha hb;have eb:(ps++[p]).getD b 0=if b<Q.length then ps.getD b 0 else p:=by
   by_cases c:b<Q.length
   .rw [if_pos c,Zaa,List.getElem?_append_left (by rw [hS.len];exact c),<- Zaa]
   .rw [if_neg c,Zaa,List.getElem?_append_right (by rw [hS.len];omega),hS.len,show b-Q.length=0 by omega];rfl
  have ea:(uQ Q p r++[r]).getD a []=if a<Q.length then jU (at' (Q.getD a []) p) (Q.getD a []) r else r:=by
   by_cases c:a<Q.length
   .rw [if_pos c,Zaa,List.getElem?_append_left (by rw [hnl];exact c),uQ,List.getElem?_map,gN (d:=[]) c];rfl
   .rw [if_neg c,Zaa,List.getElem?_append_right (by rw [hnl];omega),hnl,show a-Q.length=0 by omega];rfl
  rw [ea,eb];by_cases c1:a<Q.length
  .have hl:(Q.getD a []).length=r.length:=by rw [hS.row _ (yI c1),h.len]
   rw [if_pos c1,jD hl];by_cases c2:b<Q.length
   .rw [if_pos c2,h.out b c2,hS.one a b c1 c2,Zbk];grind
   .rw [if_neg c2,h.one,if_neg (by omega)];grind
  .rw [if_neg c1];by_cases c2:b<Q.length
   .rw [if_pos c2,h.out b c2,if_neg (by omega)]
   .rw [if_neg c2,h.one,if_pos (by omega)]
 .have h1:=Zbg hS.tM h.sN;omega
abbrev SL (n:Nat) (o4 o5:Option Pa) (rs:List Pa) (cs:List (List AV)) (ps:List Nat) (T:List Ob):List Ob :=
 .gro o4 1 rs.length (rs.map (rwV n))::.gro o5 1 ps.length (ps.map λp=>I ((p:Nat):Int))::(List.zipWith Ob.arr rs cs++T)
structure SM (rs:List Pa) (cs:List (List AV)) (Q:List (List Rat)):Prop where
 lr:rs.length=Q.length
 lc:cs.length=Q.length
 row:∀ a,a<Q.length->fI (cs.getD a []) (Q.getD a [])
theorem kQ {rs:List Pa} {cs:List (List AV)} {Q:List (List Rat)} (S:SM rs cs Q):(List.zipWith Ob.arr rs cs).length=Q.length:=by
 rw [Zfs,S.lr,S.lc,Nat.min_self]
theorem SM.ob {rs:List Pa} {cs:List (List AV)} {Q:List (List Rat)} (S:SM rs cs Q) {n a:Nat} {o4 o5:Option Pa} {ps:List Nat} {T:List Ob} (ha:a<Q.length) (X:List Ob) :
  ∃ r,rs[a]? = some r/\(X++SL n o4 o5 rs cs ps T)[X.length+(a+2)]? = some (.arr r (cs.getD a [])):=by
 have hr:rs[a]? = some (rs[a]'(by rw [S.lr];exact ha)):=List.getElem?_eq_getElem _;have hc:cs[a]? = some (cs.getD a []):=gN (by rw [S.lc];exact ha);refine ⟨_,hr,?_⟩;rw [List.getElem?_append_right (by omega),Zbh];show (List.zipWith Ob.arr rs cs++T)[a]? = _;rw [List.getElem?_append_left (by rw [kQ S];exact ha),List.getElem?_zipWith,hr,hc]
theorem zi3:∀ {rs:List Pa} {cs:List (List AV)} {a:Nat} {r:Pa} {c:List AV},rs[a]? = some r->(List.zipWith Ob.arr rs cs).set a (.arr r c)=List.zipWith Ob.arr rs (cs.set a c)
 | [],_,_,_,_,h=>by simp at h
 | _::_,[],_,_,_,_=>by simp
 | x::rs,y::cs,0,r,c,h=>by
  obtain rfl:=Option.some.inj h
  rfl
 | x::rs,y::cs,a+1,r,c,h=>by
  have:=zi3 (rs:=rs) (cs:=cs) (a:=a) (r:=r) (c:=c) (by simpa using h);simp [this]
theorem SM.put {rs:List Pa} {cs:List (List AV)} {Q:List (List Rat)} (S:SM rs cs Q) {n a:Nat} {o4 o5:Option Pa} {ps:List Nat} {T:List Ob} {r:Pa} {c:List AV} {q:List Rat} (ha:a<Q.length) (hr:rs[a]? = some r) (hc:fI c q) (X:List Ob) :
  SM rs (cs.set a c) (Q.set a q)/\(X++SL n o4 o5 rs cs ps T).set (X.length+(a+2)) (.arr r c)=X++SL n o4 o5 rs (cs.set a c) ps T:=by
 refine ⟨⟨by rw [Zbc];exact S.lr,by rw [Zbc,Zbc];exact S.lc,λb hb => ?_⟩,?_⟩
 .rw [Zbc] at hb;by_cases e:b=a
  .subst e;rw [Zaa,Zaa,List.getElem?_set_self (by rw [S.lc];exact hb),List.getElem?_set_self hb];exact hc
  .rw [Zaa,Zaa,List.getElem?_set_ne (by omega),List.getElem?_set_ne (by omega),<- Zaa,<- Zaa];exact S.row b hb
 .rw [Zeh _ _ (by omega),Zbh];show X++(Ob.gro o4 1 rs.length (rs.map (rwV n))::Ob.gro o5 1 ps.length (ps.map λp=>I ((p:Nat):Int))::(List.zipWith Ob.arr rs cs++T).set a (.arr r c))=_;rw [List.set_append_left _ _ (by rw [kQ S];exact ha),zi3 hr]
theorem SM.add {rs:List Pa} {cs:List (List AV)} {Q:List (List Rat)} (S:SM rs cs Q) {r:Pa} {c:List AV} {q:List Rat} (hc:fI c q):SM (rs++[r]) (cs++[c]) (Q++[q]):=by
 refine ⟨by simp [S.lr],by simp [S.lc],λb hb => ?_⟩;rw [Zae,Zbf] at hb;by_cases e:b<Q.length
 .rw [Zaa,Zaa,List.getElem?_append_left (by rw [S.lc];exact e),List.getElem?_append_left e,<- Zaa,<- Zaa];exact S.row b e
 .obtain rfl:b=Q.length:=by omega
  rw [Zaa,Zaa,List.getElem?_append_right (by rw [S.lc];exact Zaf _),List.getElem?_append_right (Zaf _),S.lc,Zcd];exact hc
theorem bF {rs:List Pa} {cs:List (List AV)} {r:Pa} {c:List AV} (h:rs.length=cs.length):List.zipWith Ob.arr (rs++[r]) (cs++[c])=List.zipWith Ob.arr rs cs++[.arr r c]:=by
 rw [List.zipWith_append h];rfl
theorem zpm {a g4 g5:Ob} {Z T:List Ob}:(a::g4::g5::(Z++T)).Perm (g4::g5::((Z++[a])++T)):=by
 refine (List.Perm.swap ..).trans (List.Perm.cons _ ((List.Perm.swap ..).trans (List.Perm.cons _ ?_)));rw [Zbi];exact List.perm_middle.symm
theorem zpn {α:Type} {l e:List α} {c:Nat} {q:α} (hle:e.length=l.length) (hq:e[c]? = some q):(e.take c++l.drop c).set c q=e.take (c+1)++l.drop (c+1):=by
 have hc:=(List.getElem?_eq_some_iff.1 hq).1;rw [Zbl (show c<l.length by omega),set_mid (by rw [Zal];omega),Zau,hq];simp
theorem zzs {α:Type} {l e:List α} {c:Nat} {q:α} (hle:e.length=l.length) (hq:l[c]? = some q):(e.take c++l.drop c)[c]? = some q:=by
 have hc:=(List.getElem?_eq_some_iff.1 hq).1;rw [List.getElem?_append_right (by rw [Zal];omega),Zal,List.getElem?_drop,show c+(c-min c e.length)=c by omega];exact hq
theorem p0:∀ (l:List Int) (q:List Rat) (j:Nat),(at' q j=0\/at' q j=1)->at' (l.foldl (λq c=>q.set c.toNat 1) q) j=0\/at' (l.foldl (λq c=>q.set c.toNat 1) q) j=1
 | [],_,_,h=>h
 | c::l,q,j,h=>by
  rw [Zdq];refine p0 l _ j ?_;by_cases e:c.toNat=j
  .by_cases hj:j<q.length
   .right;rw [at',Zaa,e,List.getElem?_set_self hj];rfl
   .left;exact j5 (by rw [Zbc];omega)
  .rw [at',Zaa,List.getElem?_set_ne e,<- Zaa];exact h
theorem pX (n:Nat) (l:List Int) (j:Nat):at' (nY n l) j=0\/at' (nY n l) j=1:=by
 refine p0 l _ j (.inl ?_);by_cases hj:j<n
 .rw [at',Zaa,List.getElem?_replicate,if_pos hj];rfl
 .exact j5 (by rw [Zav];omega)
def sW (n:Nat) (lines:List (List Int)) (i:Nat):List Rat:=jU 1 (nY n (lines.getD i [])) (nY n (lines.getD 0 []))
theorem xT (n:Nat) (lines:List (List Int)) (i:Nat):(sW n lines i).length=n:=by unfold sW;rw [jZ (by rw [yQ,yQ]),yQ]
theorem pK (n:Nat) (lines:List (List Int)) (i j:Nat):Sg (at' (sW n lines i) j):=by
 unfold sW;rw [jD (by rw [yQ,yQ])];rcases pX n (lines.getD i []) j with e | e <;> rcases pX n (lines.getD 0 []) j with f | f <;> rw [e,f]
 .right;left;grind
 .left;grind
 .right;right;grind
 .right;left;grind
def Mgf (n:Nat) (lines:List (List Int)) (f:List Rat):Prop:=f.length=n/\∀ l∈lines,dot (nY n l) f=dot (nY n (lines.getD 0 [])) f
theorem zpo {n:Nat} {lines:List (List Int)} {f:List Rat} (h:Mgf n lines f) {i:Nat} (hi:i<lines.length):dot (sW n lines i) f=0:=by
 unfold sW;rw [uK _ _ _ _ (by rw [yQ,yQ]),h.2 _ (yI hi)];grind
theorem xW {n:Nat} {f:List Rat}:∀ (l:List (List Rat×Nat)) (r:List Rat),(∀ x∈l,x.1.length=n/\dot x.1 f=0)->r.length=n->dot (sH l r) f=dot r f
 | [],r,_,_=>rfl
 |(q,p)::l,r,h,hr=>by
  obtain ⟨h1,h2⟩:=h (q,p) (Zak ..);have hl:r.length=q.length:=by rw [hr];exact h1.symm
  rw [sH,xW l _ (λx hx=>h x (Zar _ hx)) (by rw [jZ hl];exact hr),uK _ _ _ _ hl];have h2:dot q f=0:=h2;rw [h2];grind
end Go.Ev
namespace Go.Ev
open Go Go.Proofs
variable {B:Nat}
set_option maxRecDepth 100000
theorem zpp {h0 h:T Blk} {nx p:Pa} {L:List Ob} {k x:Nat} {o:Option Pa} {l:List Nat} {K:Kw Prop} (H:Hp h0 h nx L) (hk:L[k]? = some (.gro o 1 l.length (l.map λp=>I ((p:Nat):Int)))) (hl:l.length<=1000) (hK:∀ z:Int,(0<=z↔x∈l)->K (I z) h nx=.ok True):(CS Tryz.prog B).fn 247 p [xq o 1 l.length,I (x:Int)] h nx K=.ok True:=by
 refine zM zO yD 2000 λhf => ?_;rw [jd.go,jd.t22,zA,jd.zx,zA,zA,jd.zu,H.o8 hk,zJ];refine jd.tq (λm x5 h' nx'=>∃ i:Nat,x5=I (i:Int)/\m+i=l.length/\x∉l.take i/\h'=h/\nx'=nx) (m:=l.length) (by omega) ⟨0,rfl,rfl,by simp,rfl,rfl⟩ ?_;rintro m z2 z3 z5 z6 z7 h3 nx3 R ⟨i,rfl,hm,hn,rfl,rfl⟩ hR;rw [jd.t15,zA,jd.je,ji,zA,zB,jd.v6];by_cases ci:i<l.length
 .have hx:l[i]? = some l[i]:=List.getElem?_eq_getElem ci;obtain ⟨id,g,d⟩:=H.zbr hk (j:=i) (v:=I ((l[i]:Nat):Int)) (by rw [List.getElem?_map,hx];rfl);rw [Zac (by omega),zD,zE,zA,zJ,zA,jd.fD,zA,jd.mg,g,d,vw,zB,jd.v7];by_cases e:x=l[i]
  .rw [Zac (by omega),zD,zA,jd.qj];simp only [zH,vG,zP];rw [jd.ret];exact hK _ ⟨λ_=>e ▸ Zbb ci,λ_=>by omega⟩
  .rw [Zab (by omega),zC,zE,jd.fB,gq (by omega)];refine hR (m-1) _ _ _ _ _ _ _ (by omega) ⟨i+1,by congr 1,by omega,?_,rfl,rfl⟩;rw [Zau,hx,Zch,Zaq,Zam];exact λq=>q.elim hn e
 .rw [Zab (by omega),zC,yA,yF,zA,jd.nQ];simp only [zH,zP];rw [jd.ret];rw [Zap (by omega)] at hn;exact hK _ ⟨λq=>by omega,λq=>absurd q hn⟩
theorem zry {h0 h:T Blk} {nx p:Pa} {L:List Ob} {k x:Nat} {o:Option Pa} {l:List Nat} {K:Kw Prop} (H:Hp h0 h nx L) (hk:L[k]? = some (.gro o 1 l.length (l.map λp=>I ((p:Nat):Int)))) (hl:l.length<=1000) (hK:K (.bool (decide (x∈l))) h nx=.ok True):(CS Tryz.prog B).fn 182 p [xq o 1 l.length,I (x:Int)] h nx K=.ok True:=by
 refine zM zO yD 2000 λhf => ?_;rw [cK.go,cK.t3,zA,cK.zx,zA,cK.zu];refine zpp H hk hl λz hz => ?_;rw [pz];simp only [zH,zP];rw [cK.ret];have:decide (0<=z)=decide (x∈l):=decide_eq_decide.2 hz;rw [this];exact hK
def aA (c:Nat):List (List Rat×Nat)->List Rat->List Rat
 | [],b=>b
 |(q,p)::l,b=>aA c l (b.set p (-at' q c))
theorem zb8 (c:Nat) (q:List Rat) (p:Nat):∀ (l:List (List Rat×Nat)) (b:List Rat),aA c (l++[(q,p)]) b=(aA c l b).set p (-at' q c)
 | [],b=>rfl
 |(q',p')::l,b=>by rw [Zbp,aA,zb8 c q p l,aA]
theorem mD (c:Nat):∀ (l:List (List Rat×Nat)) (b:List Rat),(aA c l b).length=b.length
 | [],_=>rfl
 |(q,p)::l,b=>by rw [aA,mD c l,Zbc]
def uI (n c:Nat):List Rat:=(List.replicate n 0).set c 1
def rT (n:Nat) (Q:List (List Rat)) (ps:List Nat) (c:Nat):List Rat:=aA c (nU Q ps) (uI n c)
theorem j9 (n c:Nat):(uI n c).length=n:=by unfold uI;rw [Zbc,Zav]
theorem mC (n:Nat) (Q:List (List Rat)) (ps:List Nat) (c:Nat):(rT n Q ps c).length=n:=by unfold rT;rw [mD,j9]
theorem zi4 (c j:Nat) {P:Rat->Prop}:∀ (l:List (List Rat×Nat)) (b:List Rat),(∀ x∈l,P (-at' x.1 c))->P (at' b j)->P (at' (aA c l b) j)
 | [],_,_,h=>h
 |(q,p)::l,b,hl,h=>by
  rw [aA];refine zi4 c j l _ (λx hx=>hl x (Zar _ hx)) ?_;by_cases e:p=j
  .by_cases hj:j<b.length
   .rw [at',Zaa,e,List.getElem?_set_self hj];exact hl (q,p) (Zak ..)
   .rw [j5 (by rw [Zbc];omega)]
    rwa [j5 (by omega)] at h
  .rw [at',Zaa,List.getElem?_set_ne e,<- Zaa];exact h
theorem pF (n c j:Nat):at' (uI n c) j=0\/at' (uI n c) j=1:=by
 unfold uI;by_cases e:c=j
 .by_cases hj:j<n
  .right;rw [at',Zaa,e,List.getElem?_set_self (by rw [Zav];exact hj)];rfl
  .left;exact j5 (by rw [Zbc,Zav];omega)
 .left
  rw [at',Zaa,List.getElem?_set_ne e];by_cases hj:j<n
  .rw [List.getElem?_replicate,if_pos hj];rfl
  .rw [List.getElem?_eq_none (by rw [Zav];omega)];rfl
theorem Dn.neg {t M:Nat} {q:Rat} (h:Dn t M q):Dn t M (-q):=by
 obtain ⟨z,e,hz⟩:=h;exact ⟨-z,by rw [Zbw];grind,by omega⟩
theorem bL:∀ (b g:List Rat) (p:Nat) (x:Rat),p<b.length->b.length=g.length->dot (b.set p x) g=dot b g+(x-at' b p)*at' g p
 | [],_,p,x,h,_=>by simp at h
 | y::b,[],p,x,h,h2=>by simp at h2
 | y::b,z::g,0,x,_,_=>by
  rw [Zfv,dot,dot];show _=_+(x-y)*z
  grind
 | y::b,z::g,p+1,x,h,h2=>by
  have ih:=bL b g p x (by simpa using h) (by simpa using h2);rw [List.set_cons_succ,dot,dot,ih];show _=_+(x-at' b p)*at' g p
  grind
def aH (c:Nat) (g:List Rat):List (List Rat×Nat)->Rat
 | []=>0
 |(q,p)::l=>at' g p*at' q c+aH c g l
theorem zhi {b:List Rat} {p j:Nat} {x:Rat} (h:p≠j):at' (b.set p x) j=at' b j:=by
 rw [at',Zaa,List.getElem?_set_ne h,<- Zaa]
theorem zav {n c:Nat} {g:List Rat} (hg:g.length=n):∀ (l:List (List Rat×Nat)) (b:List Rat),b.length=n->(l.map (·.2)).Nodup->(∀ x∈l,x.2<n/\at' b x.2=0)->dot (aA c l b) g=dot b g-aH c g l
 | [],b,_,_,_=>by rw [aA,aH];grind
 |(q,p)::l,b,hb,hd,hz=>by
  obtain ⟨h1,h2⟩:=hz (q,p) (Zak ..);have h1:p<n:=h1;have h2:at' b p=0:=h2;rw [Zds,Zdx] at hd;rw [aA,zav hg l _ (by rw [Zbc];exact hb) hd.2 (λx hx => ?_),bL _ _ _ _ (by omega) (by omega),h2,aH]
  .grind
  .obtain ⟨h3,h4⟩:=hz x (Zar _ hx);refine ⟨h3,?_⟩;rw [zhi (λe=>hd.1 (List.mem_map.2 ⟨x,hx,e.symm⟩))];exact h4
end Go.Ev
namespace Go.Ev
open Go Go.Proofs
theorem dot_comm:∀ (a b:List Rat),dot a b=dot b a
 | [],[]=>rfl
 | [],_::_=>rfl
 | _::_,[]=>rfl
 | x::a,y::b=>by rw [dot,dot,dot_comm a b];grind
theorem kX:∀ (r f:List Rat),(∀ j,at' r j=0)->dot r f=0
 | [],_,_=>by cases ‹List Rat› <;> rfl
 | x::r,[],_=>rfl
 | x::r,y::f,h=>by
  have h0:x=0:=h 0;rw [dot,kX r f λj=>h (j+1),h0];grind
theorem xD (n j:Nat):at' (List.replicate n (0:Rat)) j=0:=by
 by_cases hj:j<n
 .rw [at',Zaa,List.getElem?_replicate,if_pos hj];rfl
 .exact j5 (by rw [Zav];omega)
theorem zfq {n c:Nat} {g:List Rat} (hg:g.length=n) (hc:c<n):dot (uI n c) g=at' g c:=by
 unfold uI;rw [bL _ _ _ _ (by rw [Zav];exact hc) (by rw [Zav];exact hg.symm),xD,kX _ _ (xD n)];grind
theorem zi5 {n c j:Nat} (h:j≠c):at' (uI n c) j=0:=by
 unfold uI;rw [zhi (λe=>h e.symm),xD]
theorem vN (c:Nat) (g:List Rat) (q:List Rat) (p:Nat):∀ l:List (List Rat×Nat),aH c g (l++[(q,p)])=aH c g l+at' g p*at' q c
 | []=>by simp only [Zbv,aH];grind
 |(q',p')::l=>by rw [Zbp,aH,aH,vN c g q p l];grind
structure RkG (n:Nat) (Q:List (List Rat)) (ps:List Nat) (g:List Rat) (k:Nat) (r:List Rat):Prop where
 eq:r=sH ((nU Q ps).take k) g
 len:r.length=n
 val:∀ c,at' r c=at' g c-aH c g ((nU Q ps).take k)
 late:∀ b,k<=b->b<Q.length->at' r (ps.getD b 0)=at' g (ps.getD b 0)
 done:∀ b,b<k->b<Q.length->at' r (ps.getD b 0)=0
theorem RkG.all {n t M:Nat} {Q:List (List Rat)} {ps:List Nat} {g:List Rat} (hS:St n t M Q ps) (hg:g.length=n):∀ k,k<=Q.length->RkG n Q ps g k (sH ((nU Q ps).take k) g)
 | 0,_=>⟨rfl,hg,λc=>by rw [Zdi,sH,aH];grind,λb _ _=>rfl,λb h=>by omega⟩
 | k+1,hk=>by
  have h:=RkG.all hS hg k (by omega);have hk':k<Q.length:=by omega
  have hq:=yI (d:=[]) hk';have hll:(sH ((nU Q ps).take k) g).length=(Q.getD k []).length:=by rw [h.len,hS.row _ hq]
  have hl:=h.late k (Zaf _) hk';refine ⟨rfl,?_,λc => ?_,λb h1 h2 => ?_,λb h1 h2 => ?_⟩
  .rw [uA hS.len hk',gS,jZ hll];exact h.len
  .rw [uA hS.len hk',gS,jD hll,h.val c,vN,hl];grind
  .rw [uA hS.len hk',gS,jD hll,hS.one k b hk' h2,if_neg (by omega),h.late b (by omega) h2];grind
  .rw [uA hS.len hk',gS,jD hll,hS.one k b hk' h2];by_cases e:b=k
   .subst e;rw [if_pos rfl];grind
   .rw [if_neg (by omega),h.done b (by omega) h2];grind
theorem St.nodup {n t M:Nat} {Q:List (List Rat)} {ps:List Nat} (hS:St n t M Q ps):ps.Nodup:=by
 rw [Zeo,Zet];intro a b ha hb hab e;have ha':a<Q.length:=by have:=hS.len;omega
 have hb':b<Q.length:=by have:=hS.len;omega
 have h1:=hS.one a a ha' ha';have h2:=hS.one a b ha' hb';have e1:ps.getD a 0=ps[a]:=by rw [Zaa,List.getElem?_eq_getElem ha];rfl
 have e2:ps.getD b 0=ps[b]:=by rw [Zaa,List.getElem?_eq_getElem hb];rfl
 rw [if_pos rfl,e1] at h1;rw [if_neg (by omega),e2,<- e,h1] at h2;exact absurd h2 (by decide)
theorem zi6 {Q:List (List Rat)} {ps:List Nat} (h:ps.length=Q.length):(nU Q ps).map (·.2)=ps:=by
 exact List.map_snd_zip (by omega)
theorem zde {n:Nat} {l:List Int} {c:Int} {b:List Rat} (hb:b.length=n) (hc:0<=c/\c<(n:Int)) (hn:c∉l) (hl:∀ x∈l,0<=x):dot (nY n (l++[c])) b=dot (nY n l) b+at' b c.toNat:=by
 have hz:∀ (l:List Int) (q:List Rat),c∉l->(∀ x∈l,0<=x)->at' q c.toNat=0->at' (l.foldl (λq c=>q.set c.toNat 1) q) c.toNat=0:=by
  intro l
  induction l with
  | nil=>intro q _ _ h;exact h
  | cons x l ih =>
   intro q hcl hx h;rw [Zdq];have hx0:=hx x (Zak ..);have hne:x≠c:=λe=>hcl (by rw [e];exact Zak ..);refine ih _ (λhm=>hcl (Zar _ hm)) (λy hy=>hx y (Zar _ hy)) ?_;rw [zhi (by omega)];exact h
 rw [mV,bL _ _ _ _ (by rw [yQ];omega) (by rw [yQ];exact hb.symm)];have h0:at' (nY n l) c.toNat=0:=hz l _ hn hl (xD n _);rw [h0];grind
end Go.Ev
namespace Go.Ev
open Go Go.Proofs
variable {B:Nat}
set_option maxRecDepth 100000
theorem zhj {n:Nat} {l:List AV} {h:T Blk} {op:AV->OP} (hl:n<=l.length):zG n (.fp l) h op=op (.agg (l.take n)):=by
 show (bif Nat.ble n l.length then op (.agg (l.take n)) else .no 8)=_;rw [Zag hl];rfl
def Sml (q:Rat):Prop:=q.num.natAbs<9223372036854775808/\q.den<9223372036854775808
abbrev wP (q:List Rat):List AV:=q.map λx=>.str (qp x)
theorem zpq {n:Nat} {c:List AV} {q:List Rat} (hc:fI c q) (hn:q.length=n) (hn1:n<=1000) (hs:∀ x∈q,Sml x):Pure Tryz.prog B 181 [.lst 4 n c] (· = .lst 1 n (wP q)):=by
 refine zX λh nx K H0 hK=>zM zO yD 2000 λhf => ?_;rw [jh.go,jh.t20,zA,jh.zx,zA,jh.zu,zV];refine H0.mkN (n:=n) (c:=n) rfl rfl (Zaf _) (by omega) (by omega) λid h1 nx1 H1 => ?_;have hle:(wP q).length=(bQ n [AV.str []]).length:=by rw [Zai,pM,hn];simp
 rw [zA,zA,jh.je,zV,zJ];refine jh.zdx (λm x7 h' nx'=>∃ k:Nat,x7=I (k:Int)/\m+k=n/\Hp h h' nx' [.arr id ((wP q).take k++(bQ n [AV.str []]).drop k)]) (m:=n) (by omega) ⟨0,rfl,rfl,by rw [Zdi,Zbv,Zdg];exact H1⟩ ?_;rintro m z3 z4 z7 z8 h3 nx3 R ⟨k,rfl,hm,H3⟩ hR;rw [jh.t12,zA,jh.bq,ji,zA,zB,jh.v8];by_cases ck:k<n
 .obtain ⟨cs,e1,e2,_,fv⟩:=hc.get (uD (q:=q) (j:=k) (by omega));have hx:(wP q)[k]? = some (.str (qp (at' q k))):=by rw [List.getElem?_map,uD (by omega)];rfl
  have sm:=hs (at' q k) (Zad (uD (q:=q) (j:=k) (by omega)));have hlen:((wP q).take k++(bQ n [AV.str []]).drop k).length=n:=by
   rw [Zae,Zal,Zcc,Zai,pM];simp;omega
  rw [Zac (by omega),zD,zE,zA,zJ,zA,jh.mg,zt3 (j:=k) rfl ck,zhj (by rw [Zcc];omega),e1];refine H3.alloc λb h4 nx4 H4 => ?_;have hcl:∃ a b' c' d',cs=[a,b',c',d']:=by
   obtain ⟨s,w,s',w',e,_⟩:=fv;exact ⟨s,w,s',w',AV.agg.inj e⟩
  obtain ⟨a1,a2,a3,a4,rfl⟩:=hcl;refine H4.yx (l2:=[a1,a2,a3,a4]) (k:=0) rfl rfl rfl λh5 H5 => ?_;rw [jh.qj,H5.zn (k:=0) (n:=4) rfl rfl];refine zwg fv sm.1 sm.2 _ _ _ _ ?_;rintro _ rfl _;rw [u7 ck,Zck];refine H5.store (k:=1) rfl (by rw [Zbd,hlen];exact ck) rfl λh6 H6 => ?_;rw [Zbd] at H6;have H6:Hp h h6 nx4 (.arr b [a1,a2,a3,a4]::[.arr id (((wP q).take k++(bQ n [AV.str []]).drop k).set k (.str (qp (at' q k))))]):=H6;rw [zpn hle hx] at H6;rw [jh.nu,gq (by omega)];exact hR (m-1) _ _ _ _ _ _ (by omega) ⟨k+1,by congr 1,by omega,H6.drop⟩
 .obtain rfl:k=n:=by omega
  rw [Zap (by rw [Zai];omega),Zby (by rw [pM];simp),Zbj] at H3;rw [Zab (by omega),zC,yA,yF,zA,jh.sJ];simp only [zH,zP];rw [jh.ret];exact hK _ _ _ _ _ H3 (H3.zg0 (k:=0) rfl (Zaf _) (by rw [Zai];omega) (λv hv=>by obtain ⟨x,_,rfl⟩:=List.mem_map.1 hv;rfl)) rfl
end Go.Ev
