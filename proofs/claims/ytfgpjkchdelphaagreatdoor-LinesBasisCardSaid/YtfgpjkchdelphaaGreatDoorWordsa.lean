import Derived.Test.YtfgpjkchdelphaaGreatDoorEvC
import Derived.Test.YtfgpjkchdelphaaGreatDoorLaws
import Derived.Test.YtfgpjkchdelphaaGreatDoorIrT
import Derived.Test.YtfgpjkchdelphaaGreatDoorEvD
import Derived.KernelRfl
import Derived.Test.YtfgpjkchdelphaaGreatDoorCodea
set_option linter.unusedSimpArgs false
set_option linter.unusedVariables false
noncomputable section
namespace Go.Ev
open Go Go.Proofs Go.RowKit
def cH:List AV->Option (List (List UInt8))
 | []=>some []
 | .str s::l=>match cH l with
  | some xs=>some (s::xs)
  | none=>none
 | _=>none
def zwi (l:List AV) (sep:List UInt8):Option AV:=match cH l with
 | some xs=>bif Nat.ble (Lib.join xs sep).length 100000 then some (.str (Lib.join xs sep)) else none
 | none=>none
def zwj (cap:Option Nat) (ln:Nat):Bool:=match cap with
 | some k=>Nat.ble ln k
 | none=>true
def zqi (v:AV) (sep:List UInt8) (h:T Blk):Option AV:=match v with
 | .sl id off ln cap esz=>match T.get .no id h with
  | .cells _ m t=>bif Nat.beq esz 1&&Nat.ble (off+ln) m&&Nat.ble ln 100000&&zwj cap ln then zwi (yY t off ln) sep else none
  | _=>none
 | .zb=>some (.str [])
 | _=>none
def zg1 (f:Nat) (args:List AV) (h:T Blk):Option (AV×T Blk):=bif Nat.beq f 281 then (match args with
 | [v,.str sep]=>match zqi v sep h with
  | some v=>some (v,h)
  | none=>none
 | _=>none) else none
theorem zg3:∀ {l:List AV} {xs:List (List UInt8)},cH l=some xs->l=xs.map .str
 | [],xs,h=>by simp [cH] at h;subst h;rfl
 | x::l,xs,h=>by
  cases x <;> first | (simp [cH] at h;done) | skip
  simp only [cH] at h;cases hl:cH l with
  | none=>simp [hl] at h
  | some ys=>simp [hl] at h;subst h;simp [zg3 hl]
theorem HR.below {P:Program} {B:Nat} {E:Env} {h:T Blk} {nx:Pa} {w w':World} (H:HR P B E h nx w) (hb:Below w.heap.size w w'):HR P B E h nx w'/\Ex E E w w':=by
 refine ⟨{
  blk:=λid hid=>by
   obtain ⟨b,n,o,q1,q2,q3⟩:=H.blk id hid;exact ⟨b,n,o,q1,by rw [hb.block b (H.lt _ _ _ q1).2];exact q2,q3⟩
  inj:=H.inj
  fresh:=H.fresh
  lt:=λid b n hid=>⟨(H.lt id b n hid).1,Zck (H.lt id b n hid).2 hb.size⟩
  base:=Zax H.base hb.size
  frz:=λb i v hf=>by
   obtain ⟨⟨c,ty,fr,q1,q2⟩,q3⟩:=H.frz b i v hf;exact ⟨⟨c,ty,fr,by rw [hb.block b (Zgz.1 q1).1];exact q1,q2⟩,q3⟩ },?_⟩
 exact ⟨.refl _,hb.os,hb.tape,hb.output,hb.size,λb hlt _=>hb.block b hlt,λid b n hid=>.inr ⟨id,n,hid⟩,λ_ _ v h=>.inr (.inl ⟨v,h⟩),λb L hL=>⟨L,by rw [hb.block b (Zgz.1 hL).1];exact hL,.refl _⟩⟩
theorem zbu {B:Nat}:JOk Tryz.prog B zg1:=by
 intro E h nx w f args vs v h2 H hv hj;unfold zg1 at hj;cases hf:Nat.beq f 281 with
 | false=>simp [hf] at hj
 | true =>
  obtain rfl:=yP hf;rw [hf,cond_true] at hj;split at hj
  case h_2=>cases hj
  rename_i _ x sep;cases hjj:zqi x sep h with
  | none=>simp [hjj] at hj
  | some v0 =>
  simp only [hjj,Option.some.injEq,Prod.mk.injEq] at hj;obtain ⟨rfl,rfl⟩:=hj;have hj:=hjj
  clear hjj
  refine ⟨(),trivial,trivial,trivial,λn=>.inl ⟨_,Tryz.func281,by kernel_rfl,by kernel_rfl,callsIn_wide.2 ?_⟩⟩;obtain ⟨l⟩:=vs;simp only [VRL] at hv;obtain ⟨u,_,rfl,hu,s,_,rfl,hs,rfl⟩:=hv;simp only [VR] at hs;subst hs
  have fin:∀ (xs:List (List UInt8)) (w':World) (e:Ending),v0=.str (Lib.join xs sep)->e=.returned (.string ⟨(Lib.join ((xs.map λs=>(⟨s.toArray⟩:ByteArray)).map (·.data.toList)) (⟨sep.toArray⟩:ByteArray).data.toList).toArray⟩)->Below w.heap.size w w' ->
    ∃ u E',e=.returned u/\VR E' v0 u/\HR Tryz.prog B E' h nx w'/\Ex E E' w w':=by
   intro xs w' e hve he hb;obtain ⟨h1,h2⟩:=H.below hb;refine ⟨_,E,he,?_,h1,h2⟩;rw [hve];simp only [VR,List.map_map]
   congr 2
   have:(xs.map ((λx=>x.data.toList) ∘ λs=>(⟨s.toArray⟩:ByteArray)))=xs:=by
    conv=>rhs;rw [<- List.map_id xs]
    exact Zee λ_ _=>rfl
   rw [this]
  unfold zqi at hj;split at hj
  .rename_i id off ln cap esz;split at hj
   .rename_i op m t hb;cases hq:(Nat.beq esz 1&&Nat.ble (off+ln) m&&Nat.ble ln 100000&&zwj cap ln) with
    | false=>simp [hq] at hj
    | true =>
     rw [hq,cond_true] at hj;simp only [Zal] at hq;obtain ⟨⟨⟨q1,q2⟩,q3⟩,q4⟩:=hq;obtain rfl:=yP q1;have q2:=yG q2;have q3:=yG q3;unfold zwi at hj;cases hx:cH (yY t off ln) with
     | none=>simp [hx] at hj
     | some xs =>
      simp only [hx] at hj;cases hl:Nat.ble (Lib.join xs sep).length 100000 with
      | false=>simp [hl] at hj
      | true =>
       rw [hl,cond_true] at hj;have hl:=yG hl;obtain rfl:=(Option.some.inj hj).symm;have hxs:=zg3 hx;have hln:xs.length=ln:=by
        have:=congrArg List.length hxs;simpa using this.symm
       obtain ⟨b,n,c,hE,rfl,hcap⟩:=hu.ai;obtain ⟨b',n',o,h1,h2,h3⟩:=H.blk id (by rw [hb];intro e;cases e);rw [hE] at h1;cases h1;rw [hb] at h3;obtain ⟨cs,ty,fr,rfl,_,_,_,_,hc⟩:=h3
       have hjn:=Tryz.strings_Join b off c (xs.map λs=>(⟨s.toArray⟩:ByteArray)) ⟨sep.toArray⟩ w (by
        intro j x hx2;rw [Zgx] at hx2;cases hxj:xs[j]? with
        | none=>simp [hxj] at hx2
        | some s =>
         simp [hxj] at hx2;subst hx2;have hjl:j<ln:=by rw [<- hln];exact (Zgw.1 hxj).1
         obtain ⟨_,v',g1,g2⟩:=hc (off+j) (by omega);have he:T.get .u (.of (off+j)) t=.str s:=by
          have e1:=yN t off ln j hjl;rw [hxs] at e1;simp [hxj] at e1;exact e1.symm
         rw [he] at g2;simp only [VR] at g2;subst g2
         simp [World.cell?,h2,g1]) (H.lt _ _ _ hE).2 (by simp;omega) (by
          simp only [Zah,hln];cases cap with
          | none=>exact hcap.1
          | some k =>
           have h4:ln<=k:=yG q4;have h5:c=k:=hcap;omega) (by
          have:((xs.map λs=>(⟨s.toArray⟩:ByteArray)).map (·.data.toList))=xs:=by
           rw [List.map_map]
           conv=>rhs;rw [<- List.map_id xs]
           exact Zee λ_ _=>rfl
          rw [this];show (Lib.join xs sep).length<=_;omega)
       rw [Zah,hln] at hjn;exact hjn.mono λe w' ⟨he,hb⟩=>fin xs w' e rfl he hb
   .cases hj
  .obtain rfl:=(Option.some.inj hj).symm;simp only [VR] at hu;subst hu;exact (Tryz.strings_Join_none none 0 _ w).mono λe w' ⟨he,hb⟩=>fin [] w' e rfl he (hb ▸ Below.refl _ _)
  .cases hj
end Go.Ev
namespace Go.Ev
open Go Go.Proofs
def zje (J:Nat->List AV->T Blk->Option (AV×T Blk)) (f:Nat) (args:List AV) (res:AV):Bool:=match (dJ (λ_=>false) J tbl 1000 60).fn f (.of f) args .e .z endK with
 | .ok v=>eH v res
 | .no _=>false
theorem zg2 {J:Nat->List AV->T Blk->Option (AV×T Blk)} {f:Nat} {args:List AV} {res:AV} {B:Nat} (hJ:∀ B,JOk Tryz.prog B J) (ha:nns args=true) (h:zje J f args res=true):Pure Tryz.prog B f args (· = res):=by
 unfold zje at h;cases hq:(dJ (λ_=>false) J tbl 1000 60).fn f (.of f) args .e .z endK with
 | no n=>rw [hq] at h;cases h
 | ok v =>
  rw [hq] at h;have e:=vJ h;subst e;exact jC zN mixed hJ ha hq
end Go.Ev
namespace Go.Ev
def bv (b:Nat):List Nat->Nat
 | []=>0
 | x::l=>x+b*bv b l
theorem qW (b:Nat):∀ l m:List Nat,bv b (l++m)=bv b l+b ^ l.length*bv b m
 | [],m=>by simp [bv]
 | x::l,m=>by
  rw [Zbt,bv,qW b l m,bv,Zbd,Zdi,Zek,Zcv,Zby (b ^ l.length) b,Zef]
theorem c8 (b:Nat) (l:List Nat) (x:Nat):bv b (l++[x])=bv b l+b ^ l.length*x:=by
 rw [qW];simp [bv]
def Dg (b:Nat) (l:List Nat):Prop:=∀ x∈l,x<b
theorem zdg {b:Nat} (hb:0<b):∀ {l:List Nat},Dg b l->bv b l<b ^ l.length
 | [],_=>by simp [bv]
 | x::l,h=>by
  have h1:=zdg hb (l:=l) λy hy=>h y (by simp [hy]);have h2:=h x (by simp);rw [bv,Zbd,Zdi,Zby (b ^ l.length) b];have h3:b*(bv b l+1)<=b*b ^ l.length:=Zfa b h1;rw [Zek,Zbv] at h3;omega
def Nm (l:List Nat):Prop:=l.getLast? ≠ some 0
def dg (b:Nat) (z:Nat):List Nat:=if h:z=0\/b<2 then [] else z%b::dg b (z / b)
termination_by z
decreasing_by
 have h1:z≠0:=λq=>h (.inl q);have h2:¬ b<2:=λq=>h (.inr q);exact Nat.div_lt_self (Zfg h1) (by omega)
theorem gN (b:Nat):dg b 0=[]:=by rw [dg];simp
theorem qJ {b z:Nat} (hb:2<=b) (hz:z≠0):dg b z=z%b::dg b (z / b):=by
 rw [dg,dif_neg (by omega)]
theorem qK {b:Nat} (hb:2<=b) (z:Nat):bv b (dg b z)=z/\Dg b (dg b z)/\Nm (dg b z):=by
 induction z using Nat.strongRecOn with
 | ind z ih =>
  by_cases hz:z=0
  .subst hz;rw [gN];exact ⟨rfl,λx hx=>by simp at hx,by simp [Nm]⟩
  .obtain ⟨h1,h2,h3⟩:=ih (z / b) (Nat.div_lt_self (Zfg hz) (by omega));rw [qJ hb hz];refine ⟨?_,?_,?_⟩
   .rw [bv,h1];exact Nat.mod_add_div z b
   .intro x hx;rcases Zas.1 hx with rfl | hx
    .exact Zds _ (by omega)
    .exact h2 x hx
   .unfold Nm at *
    by_cases hd:z / b=0
    .rw [hd,gN];have:z<b:=by
      rcases Nat.div_eq_zero_iff.1 hd with q | q
      .omega
      .exact q
     simp [Zce this];exact hz
    .rw [qJ hb hd] at h3 ⊢;rw [List.getLast?_cons_cons];exact h3
theorem bZ {b:Nat} (hb:2<=b):∀ {l:List Nat},Dg b l->Nm l->l=dg b (bv b l)
 | [],_,_=>by rw [bv,gN]
 | x::l,h,hn=>by
  have hx:=h x (by simp);have hl:Dg b l:=λy hy=>h y (by simp [hy]);have hnl:Nm l:=by
   unfold Nm at *
   cases l with
   | nil=>simp
   | cons y l=>rw [List.getLast?_cons_cons] at hn;exact hn
  have ih:=bZ hb hl hnl;have hz:bv b (x::l)≠0:=by
   rw [bv];intro q;have hx0:x=0:=by omega
   have hv:bv b l=0:=by
    have:b*bv b l=0:=by omega
    rcases Nat.mul_eq_zero.1 this with q | q
    .omega
    .exact q
   rw [hv,gN] at ih;subst ih;subst hx0;simp [Nm] at hn
  rw [qJ hb hz,bv];have e1:(x+b*bv b l)%b=x:=by rw [Nat.add_mul_mod_self_left,Zce hx]
  have e2:(x+b*bv b l) / b=bv b l:=by rw [Nat.add_mul_div_left _ _ (by omega),Zet hx,Zbg]
  rw [e1,e2,<- ih]
theorem vH {b:Nat} {l:List Nat} {i x:Nat} (h:l[i]? = some x):bv b (l.take (i+1))=bv b (l.take i)+b ^ i*x:=by
 have hi:i<l.length:=(Zgw.1 h).1;rw [Zaq,h];show bv b (l.take i++[x])=_;rw [c8,Zai,Zbw (by omega)]
theorem zyk {U V q r:Nat} (h:U=q*V+r) (hr:r<V):U / V=q/\U%V=r:=by
 have hv:0<V:=by omega
 subst h;refine ⟨?_,?_⟩
 .rw [Zdh,Nat.add_mul_div_right _ _ hv,Zet hr,Zbg]
 .rw [Zdh,Nat.add_mul_mod_self_right,Zce hr]
end Go.Ev
namespace Go.Ev
open Go Go.Proofs
variable {B:Nat}
set_option maxRecDepth 100000
theorem yC {B:Nat}:bG Tryz.prog B Prop:=zbh mixed
abbrev U (m:Nat):AV:=.int .u64 (m:Int)
def encW (l:List Nat):AV:=.lst 1 l.length (l.map U)
theorem zqj {z:Int} (h:0<=z/\z<18446744073709551616):IntKind.wrap .u64 z=z:=by
 have e:IntKind.wrap .u64 z=z%18446744073709551616:=by
  unfold IntKind.wrap;first | rfl | simp [IntKind.bits,IntKind.signed] | skip
 rw [e];omega
theorem zqk {m:Nat}:IntKind.wrap .u64 (m:Int)=((m%18446744073709551616:Nat):Int):=by
 have e:IntKind.wrap .u64 (m:Int)=(m:Int)%18446744073709551616:=by
  unfold IntKind.wrap;first | rfl | simp [IntKind.bits,IntKind.signed] | skip
 rw [e];omega
theorem zql {z:Int}:IntKind.wrap .u64 z=z%18446744073709551616:=by
 unfold IntKind.wrap;first | rfl | simp [IntKind.bits,IntKind.signed]
theorem uAdd {a b:Nat} {K:AV->OP}:za .add .int (U a) (U b) K=K (U ((a+b)%18446744073709551616)):=by
 rw [zvu,show (a:Int)+(b:Int)=((a+b:Nat):Int) by omega,zqk]
theorem uMul {a b:Nat} {K:AV->OP}:za .mul .int (U a) (U b) K=K (U ((a*b)%18446744073709551616)):=by
 rw [qbm,show (a:Int)*(b:Int)=((a*b:Nat):Int) by simp,zqk]
theorem uShr {m n:Nat} {k:IntKind} {K:AV->OP} (hn:n<=64):za .shr .int (U m) (.int k (n:Int)) K=K (U (m / 2 ^ n)):=by
 have e:za .shr .int (U m) (.int k (n:Int)) K=(bif ilt (n:Int) 0 then Out.no 5 else qx ((m:Int).fdiv (2 ^ (min (n:Int).toNat IntKind.u64.bits))) λz=>K (.int .u64 z)):=by cases k <;> rfl
 have h0:ilt (n:Int) 0=false:=rfl;rw [e,h0,cond_false,jL];have hb:IntKind.u64.bits=64:=rfl;rw [hb,Zfn,Zbw hn,Int.fdiv_eq_ediv_of_nonneg _ (Zeq (by omega))]
 congr 2
theorem zbw {m:Nat} {k:IntKind} {K:AV->OP}:za .shr .int (U m) (.int k 32) K=K (U (m / 4294967296)):=uShr (n:=32) (by omega)
theorem uAnd {m:Nat} {K:AV->OP} (hm:m<18446744073709551616):za .and .int (U m) (.int .u64 4294967295) K=K (U (m%4294967296)):=by
 have e:za .and .int (U m) (U 4294967295) K=qx (IntKind.u64.wrap ((BitVec.ofInt 64 (m:Int) &&& BitVec.ofInt 64 ((4294967295:Nat):Int)).toNat:Int)) λz=>K (.int .u64 z):=rfl;have h1:(BitVec.ofInt 64 (m:Int) &&& BitVec.ofInt 64 ((4294967295:Nat):Int)).toNat=m%4294967296:=by
  rw [BitVec.ofInt_natCast,BitVec.ofInt_natCast,BitVec.toNat_and,BitVec.toNat_ofNat,BitVec.toNat_ofNat,Zce hm];exact Nat.and_two_pow_sub_one_eq_mod m 32
 have e2:za .and .int (U m) (.int .u64 4294967295) K=za .and .int (U m) (U 4294967295) K:=rfl;rw [e2,e,jL,h1,zqj (by omega)]
theorem uLeq {a b:Nat} {K:AV->OP}:za .leq .int (U a) (U b) K=K (.bool (decide (a<=b))):=by rw [rR];simp only [Int.ofNat_le]
theorem uGeq {a b:Nat} {K:AV->OP}:za .geq .int (U a) (U b) K=K (.bool (decide (b<=a))):=by rw [fM];simp only [Int.ofNat_le]
theorem uEql {a b:Nat} {K:AV->OP}:za .eql .int (U a) (U b) K=K (.bool (decide (a=b))):=by rw [qz];simp only [Int.natCast_inj]
theorem qby {a:Nat} {K:AV->OP}:za .eql .int (U a) (.int .u64 0) K=K (.bool (decide (a=0))):=uEql (b:=0)
theorem zqm {k:IntKind} {z:Int} {m:Nat} {K:AV->OP} (h:z=(m:Int)) (hm:m<18446744073709551616):kT .u64 (.int k z) K=K (U m):=by
 show qx (uV .u64 z) (λz=>K (.int .u64 z))=_;rw [jL,uZ,zqj (by omega),h]
theorem zqn {k:IntKind} {z:Int} {K:AV->OP} (h : -9223372036854775808<=z/\z<0):kT .u64 (.int k z) K=K (U (z+18446744073709551616).toNat):=by
 show qx (uV .u64 z) (λz=>K (.int .u64 z))=_;rw [jL,uZ,zql,show z%18446744073709551616=((z+18446744073709551616).toNat:Int) by omega]
theorem zez {k:IntKind} {z:Int} {K:AV->OP} (h : -9223372036854775808<=z/\z<=9223372036854775807):kT .i64 (.int k z) K=K (I z):=by
 show qx (uV .i64 z) (λz=>K (.int .i64 z))=_;rw [jL,uZ,qS h]
theorem uNeg {z:Int} {K:AV->OP} (h : -9223372036854775807<=z/\z<=9223372036854775808):sNeg (I z) K=K (I (-z)):=by
 show qx (uV .i64 (0-z)) (λz=>K (.int .i64 z))=_;rw [jL,uZ,qS (by omega),Int.zero_sub]
theorem qbz {K:AV->OP}:sNeg (I (-9223372036854775808)) K=K (I (-9223372036854775808)):=nr rfl
theorem uGet {l:List Nat} {i x:Nat} (h:l[i]? = some x):(l.map U)[i]? = some (U x):=by rw [Zgx,h];rfl
theorem uLen {l:List Nat} {K:AV->OP}:sLen (encW l) K=K (I l.length):=zW ..
theorem uIx {l:List Nat} {i:Nat} {j:Int} {op:AV->OP} (hj:j=(i:Int)) (hi:i<l.length):zJ 1 (encW l) (I j) op=op (.fp ((l.map U).drop (i*1))):=cu hj hi
theorem uLd {l:List Nat} {i x:Nat} {h:T Blk} {op:AV->OP} (hx:l[i]? = some x):zG (.fp ((l.map U).drop (i*1))) h op=op (U x):=ldL (uGet hx)
theorem Hp.zqo {h0 h:T Blk} {nx id:Pa} {L:List Ob} {l:List AV} (H:Hp h0 h nx (.arr id l::L)):Hp h0 (T.set .no .no id h) nx L:=by
 have hid:T.get .no id h0=.no:=H.off id (by simp [Ob.names]);have H3:=H.drop;have nd:=H.nd;simp only [Zdf,Ob.names] at nd;have hni:id∉L.flatMap Ob.names:=λhi=>(Zcy.1 nd).2.2 id (by simp) id hi rfl;have other:∀ j,j≠id->T.get .no j (T.set .no .no id h)=T.get .no j h:=λj hj=>T.zx _ _ _ _ _ hj;refine ⟨λj hj => ?_,λy hy => ?_,H3.off,H3.nd,λj hj => ?_⟩
 .rw [other j (by rintro rfl;exact hj hid)];exact H.keep j hj
 .exact (H3.own y hy).congr λm hm=>other m (by rintro rfl;exact hni (Zca.2 ⟨y,hy,hm⟩))
 .by_cases e:j=id
  .subst e;exact T.get_set_same _ _ _ _
  .rw [other j e];exact H.fr j hj
theorem zyl {a b:Nat} (ha:a<18446744073709551616) (hb:b<18446744073709551616):Pure Tryz.prog B 263 [U a,U b] (· = .tup [U (a*b / 18446744073709551616),U (a*b%18446744073709551616)]):=by
 intro p h nx K hK;refine zL zN yC 10 λhf => ?_;rw [jg.go,jg.t23,zA,jg.zu,zA,jg.zo,uAnd ha,zA,jg.yw,zbw,zA,jg.vk,uAnd hb,zA,jg.ng,zbw];have ha0:a%4294967296<4294967296:=by omega
 have ha1:a / 4294967296<4294967296:=by omega
 have hb0:b%4294967296<4294967296:=by omega
 have hb1:b / 4294967296<4294967296:=by omega
 have ea:a=a / 4294967296*4294967296+a%4294967296:=by omega
 have eb:b=b / 4294967296*4294967296+b%4294967296:=by omega
 generalize a / 4294967296=a1 at *
 generalize a%4294967296=a0 at *
 generalize b / 4294967296=b1 at *
 generalize b%4294967296=b0 at *
 have m00:a0*b0<=4294967295*4294967295:=Zbl (by omega) (by omega);have m10:a1*b0<=4294967295*4294967295:=Zbl (by omega) (by omega);have m01:a0*b1<=4294967295*4294967295:=Zbl (by omega) (by omega);have m11:a1*b1<=4294967295*4294967295:=Zbl (by omega) (by omega);have hp:a*b=a1*b1*18446744073709551616+(a1*b0+a0*b1)*4294967296+a0*b0:=by
  rw [ea,eb];simp only [Zbn,Zek];have e1:a1*4294967296*(b1*4294967296)=a1*b1*18446744073709551616:=by
   rw [Nat.mul_mul_mul_comm]
  have e2:a1*4294967296*b0=a1*b0*4294967296:=by rw [Nat.mul_right_comm]
  have e3:a0*(b1*4294967296)=a0*b1*4294967296:=by rw [Zef]
  rw [e1,e2,e3];omega
 rw [zA,jg.fZ,uMul,Zce (show a0*b0<18446744073709551616 by omega),zA,jg.uy,uMul,Zce (show a1*b0<18446744073709551616 by omega),zbw,uAdd,Zce (show a1*b0+a0*b0 / 4294967296<18446744073709551616 by omega),zA,jg.fF,uAnd (by omega),zA,jg.fU,zbw,zA,jg.nu,uMul,Zce (show a0*b1<18446744073709551616 by omega),uAdd,zA,jg.ny,uMul,Zce (show a1*b1<18446744073709551616 by omega),uAdd,zbw,uAdd,zA,jg.xu,uMul];simp only [zF,zO];rw [jg.ret];refine hK _ ?_ hf;rw [hp]
 generalize a0*b0=p00 at *
 generalize a1*b0=p10 at *
 generalize a0*b1=p01 at *
 generalize a1*b1=p11 at *
 congr 3
 congr 1
 omega
theorem ze0 {z:Int} (h : -9223372036854775808<=z/\z<=9223372036854775807):Pure Tryz.prog B 264 [I z] (· = U z.natAbs):=by
 refine zT λhh nx K H0 hK=>zL zN yC 100 λhf => ?_;have ret:∀ {m:Nat},m=z.natAbs->K (U m) hh nx=.ok True:=λe=>hK _ _ _ _ _ H0 (zS rfl) (by rw [e]);rw [dx.go,dx.t9,zA,dx.zu,zA,zA,dx.zo,jf,zB,dx.v2];by_cases c:z<0
 .rw [Zac c,zC,zA,dx.yw];by_cases d:z = -9223372036854775808
  .subst d;rw [qbz,zqn (by omega)];simp only [zF,zO];rw [dx.ret];exact ret (by decide)
  .rw [uNeg (by omega),zqm (m:=z.natAbs) (by omega) (by omega)];simp only [zF,zO];rw [dx.ret];exact ret rfl
 .rw [Zab c,zD,zE,zA,dx.uy,zqm (m:=z.natAbs) (by omega) (by omega)];simp only [zF,zO];rw [dx.ret];exact ret rfl
theorem ztn {l:List Nat} {k x:Nat} (h:l[k]? = some x) (hx:x≠0):Nm (l.take (k+1)):=by
 unfold Nm;rw [Zaq,h];show (l.take k++[x]).getLast? ≠ _;rw [List.getLast?_concat];intro q;cases q;exact hx rfl
theorem Dg.take {b n:Nat} {l:List Nat} (h:Dg b l):Dg b (l.take n):=λx hx=>h x (Zbx hx)
def cmpT (a b:List Nat):Nat->Int
 | 0=>0
 | k+1=>if a.getD k 0=b.getD k 0 then cmpT a b k else if a.getD k 0<b.getD k 0 then -1 else 1
def cmpW (a b:List Nat):Int:=if a.length≠b.length then (if a.length<b.length then -1 else 1) else cmpT a b a.length
theorem getD_some {l:List Nat} {k:Nat} (h:k<l.length):l[k]? = some (l.getD k 0):=by rw [Zaa,Zgv h];rfl
theorem mS {b:Nat} {l:List Nat} {k:Nat} (hb:0<b) (h:Dg b l):l.getD k 0<b:=by
 by_cases c:k<l.length
 .exact h _ (Zad (getD_some c))
 .rw [Zaa,Zha (by omega)];exact hb
theorem zdh {b:Nat} {x y:List Nat} (hb:0<b) (hx:Dg b x) (hy:Dg b y):∀ {k:Nat},k<=x.length->k<=y.length->cmpT x y k=(if bv b (x.take k)<bv b (y.take k) then -1 else if bv b (y.take k)<bv b (x.take k) then 1 else 0)
 | 0,_,_=>by simp [cmpT,bv]
 | k+1,h1,h2=>by
  have e1:=getD_some (l:=x) (k:=k) (by omega);have e2:=getD_some (l:=y) (k:=k) (by omega);have l1:=zdg hb (hx.take (n:=k));have l2:=zdg hb (hy.take (n:=k));rw [Zai,Zbw (by omega)] at l1 l2;rw [cmpT,vH e1,vH e2,zdh hb hx hy (by omega) (by omega)]
  generalize bv b (x.take k)=X at *
  generalize bv b (y.take k)=Y at *
  generalize x.getD k 0=u at *
  generalize y.getD k 0=v at *
  generalize b ^ k=P at *
  by_cases c:u=v
  .rw [if_pos c,c];simp only [Nat.add_lt_add_iff_right]
  .rw [if_neg c];by_cases d:u<v
   .have q:P*(u+1)<=P*v:=Zfa P d;rw [Zek,Zbv] at q;have q1:X+P*u<Y+P*v:=by omega
    rw [if_pos d,if_pos q1]
   .have q:P*(v+1)<=P*u:=Zfa P (by omega);rw [Zek,Zbv] at q;have q1:Y+P*v<X+P*u:=by omega
    have q2:¬ X+P*u<Y+P*v:=by omega
    rw [if_neg d,if_neg q2,if_pos q1]
theorem qV {b z n:Nat} (hb:2<=b) (h:z<b ^ n):(dg b z).length<=n:=by
 induction n generalizing z with
 | zero=>rw [show z=0 by simp at h;exact h,gN];simp
 | succ n ih =>
  by_cases hz:z=0
  .rw [hz,gN];simp
  .rw [qJ hb hz,Zbd];have:=ih (z:=z / b) (by rw [Zfy (by omega),<- Zdi];exact h);omega
theorem wU {b y z:Nat} (hb:2<=b) (h:(dg b y).length<(dg b z).length):y<z:=by
 rcases Zdj y z with q | q
 .exact q
 .exfalso
  have h1:=qV hb (z:=z) (n:=(dg b y).length) (Zdb q (by
   have:=zdg (b:=b) (by omega) (qK hb y).2.1
   rwa [(qK hb y).1] at this))
  omega
def cmpN (a b:Nat):Int:=if a<b then -1 else if b<a then 1 else 0
theorem zto {b x y:Nat} (hb:2<=b):cmpW (dg b x) (dg b y)=cmpN x y:=by
 unfold cmpW cmpN;by_cases c:(dg b x).length=(dg b y).length
 .rw [if_neg (by simpa using c),zdh (by omega) (qK hb x).2.1 (qK hb y).2.1 (Zaf _) (by omega),Zcu,c,Zcu,(qK hb x).1,(qK hb y).1]
 .rw [if_pos c];by_cases d:(dg b x).length<(dg b y).length
  .rw [if_pos d,if_pos (wU hb d)]
  .have:=wU hb (y:=y) (z:=x) (by omega);rw [if_neg d,if_neg (by omega),if_pos this]
theorem dU {α:Type} {A C:List α} {x y:α} {i:Nat} (h:A.length=i):(A++x::C).set i y=A++y::C:=by
 subst h;rw [List.set_append_right _ _ (Zaf _),Zcw];rfl
theorem Dg.append {b:Nat} {l m:List Nat} (h1:Dg b l) (h2:Dg b m):Dg b (l++m):=λx hx=>by
 rcases Zbf.1 hx with q | q
 .exact h1 x q
 .exact h2 x q
theorem Dg.one {b x:Nat} (h:x<b):Dg b [x]:=λy hy=>by rw [Zaz.1 hy];exact h
theorem Dg.rep {b n:Nat} (h:0<b):Dg b (List.replicate n 0):=λx hx=>by rw [(List.mem_replicate.1 hx).2];exact h
def zbx:List UInt8:=[0,1,2,2,3,3,3,3,4,4,4,4,4,4,4,4,5,5,5,5,5,5,5,5,5,5,5,5,5,5,5,5,6,6,6,6,6,6,6,6,6,6,6,6,6,6,6,6,6,6,6,6,6,6,6,6,6,6,6,6,6,6,6,6,7,7,7,7,7,7,7,7,7,7,7,7,7,7,7,7,7,7,7,7,7,7,7,7,7,7,7,7,7,7,7,7,7,7,7,7,7,7,7,7,7,7,7,7,7,7,7,7,7,7,7,7,7,7,7,7,7,7,7,7,7,7,7,7,8,8,8,8,8,8,8,8,8,8,8,8,8,8,8,8,8,8,8,8,8,8,8,8,8,8,8,8,8,8,8,8,8,8,8,8,8,8,8,8,8,8,8,8,8,8,8,8,8,8,8,8,8,8,8,8,8,8,8,8,8,8,8,8,8,8,8,8,8,8,8,8,8,8,8,8,8,8,8,8,8,8,8,8,8,8,8,8,8,8,8,8,8,8,8,8,8,8,8,8,8,8,8,8,8,8,8,8,8,8,8,8,8,8,8,8,8,8,8,8,8,8,8,8,8,8,8,8]
theorem zmj:∀ i<256,(zbx[i]?).all (λt=>decide (t.toNat<=8/\i<2 ^ t.toNat/\(0<i->2 ^ t.toNat<=2*i)))=true/\(zbx[i]?).isSome=true:=by decide
def zby (x n:Nat):Prop:=n<=64/\x<2 ^ n/\(0<x->2 ^ n<=2*x)
theorem zbz {x n k:Nat} (h:zby (x / 2 ^ k) n) (hx:2 ^ k<=x) (hn:n+k<=64):zby x (n+k):=by
 obtain ⟨h1,h2,h3⟩:=h;have hp:0<2 ^ k:=Zgj (by omega);have h4:0<x / 2 ^ k:=Nat.div_pos hx hp;refine ⟨hn,?_,λ_ => ?_⟩
 .rw [Zez];exact (Zfy hp).1 h2
 .rw [Zez];have:=Zbj (2 ^ k) (h3 h4);have h5:=Nat.div_mul_le_self x (2 ^ k);rw [Zef] at this;omega
theorem zko {x n:Nat} {K:Kw Prop} {h:T Blk} {nx:Pa} {x2 x3 x4:AV} (hx:x<256) (hn:n<=1000) (hK:∀ t,zby x t->t<=8->K (I ((n+t:Nat):Int)) h nx=.ok True) :
  IR.run yu.t20 (CS Tryz.prog B) 100 (fnO yu.res K) (zi yu.res K) (yu.fr (U x) (I (n:Int)) x2 x3 x4) h nx=.ok True:=by
 obtain ⟨a,b⟩:=zmj x hx;obtain ⟨t,ht⟩:=Option.isSome_iff_exists.1 b;rw [ht] at a;simp only [Option.all_some,decide_eq_true_eq] at a;have hs:∀ K:AV->OP,j5 (.str zbx) (.int .u8 (x:Int)) K=K (.int .u8 (t.toNat:Int)):=λK=>by
  show (match zbx[x]? with
   | some b=>pq b.toNat λn=>K (.int .u8 (.ofNat n))
   | none=>.no 16)=_
  rw [ht];simp only [yM];rfl
 have hc:∀ K:AV->OP,kT .u8 (U x) K=K (.int .u8 (x:Int)):=λK=>by
  show qx (uV .u8 (x:Int)) (λz=>K (.int .u8 z))=_;rw [jL,uZ];have e:IntKind.wrap .u8 (x:Int)=(x:Int)%256:=by
   unfold IntKind.wrap;first | rfl | simp [IntKind.bits,IntKind.signed]
  rw [e,show (x:Int)%256=(x:Int) by omega]
 rw [yu.t20,zA,yu.sJ,hc];rw [show (AV.str [0,1,2,2,3,3,3,3,4,4,4,4,4,4,4,4,5,5,5,5,5,5,5,5,5,5,5,5,5,5,5,5,6,6,6,6,6,6,6,6,6,6,6,6,6,6,6,6,6,6,6,6,6,6,6,6,6,6,6,6,6,6,6,6,7,7,7,7,7,7,7,7,7,7,7,7,7,7,7,7,7,7,7,7,7,7,7,7,7,7,7,7,7,7,7,7,7,7,7,7,7,7,7,7,7,7,7,7,7,7,7,7,7,7,7,7,7,7,7,7,7,7,7,7,7,7,7,7,8,8,8,8,8,8,8,8,8,8,8,8,8,8,8,8,8,8,8,8,8,8,8,8,8,8,8,8,8,8,8,8,8,8,8,8,8,8,8,8,8,8,8,8,8,8,8,8,8,8,8,8,8,8,8,8,8,8,8,8,8,8,8,8,8,8,8,8,8,8,8,8,8,8,8,8,8,8,8,8,8,8,8,8,8,8,8,8,8,8,8,8,8,8,8,8,8,8,8,8,8,8,8,8,8,8,8,8,8,8,8,8,8,8,8,8,8,8,8,8,8,8,8,8,8,8,8,8])=.str zbx from rfl,hs,zez (by omega),jo (by omega)];simp only [zF,zO];rw [yu.ret,show (n:Int)+(t.toNat:Int)=((n+t.toNat:Nat):Int) by omega];exact hK _ ⟨by omega,a.2⟩ a.1
theorem zqp {x:Nat} (hx:x<18446744073709551616):Pure Tryz.prog B 312 [U x] (λv=>∃ n:Nat,v=I (n:Int)/\zby x n):=by
 intro p h nx K hK;refine zL zN yC 100 λhf => ?_;have fin:∀ {n},zby x n->K (I (n:Int)) h nx=.ok True:=λh'=>hK _ ⟨_,rfl,h'⟩ hf;have s3:∀ (y n:Nat) (x2 x3 x4:AV),y<65536->n<=48->(∀ t,zby y t->t<=16->K (I ((n+t:Nat):Int)) h nx=.ok True)->IR.run yu.t21 (CS Tryz.prog B) 100 (fnO yu.res K) (zi yu.res K) (yu.fr (U y) (I (n:Int)) x2 x3 x4) h nx=.ok True:=λy n x2 x3 x4 hy hn hK'=>by
  rw [yu.t21,zA,zA,yu.rP,show (AV.int .u64 256)=U 256 from rfl,uGeq,zB,yu.v4];by_cases c:256<=y
  .rw [Zac c,zC,zA,yu.rG,show (AV.int .u64 8)=.int .u64 ((8:Nat):Int) from rfl,uShr (by omega),yu.ol,jo (by omega),show (n:Int)+8=((n+8:Nat):Int) by omega];exact zko (by omega) (by omega) λt h1 h2=>by
    have:=hK' (t+8) (zbz h1 c (by omega)) (by omega)
    rwa [show n+(t+8)=n+8+t by omega] at this
  .rw [Zab c,zD,zE];exact zko (by omega) (by omega) λt h1 h2=>hK' t h1 (by omega)
 have s2:∀ (y n:Nat) (x2 x3 x4:AV),y<4294967296->n<=32->(∀ t,zby y t->t<=32->K (I ((n+t:Nat):Int)) h nx=.ok True)->IR.run yu.t22 (CS Tryz.prog B) 100 (fnO yu.res K) (zi yu.res K) (yu.fr (U y) (I (n:Int)) x2 x3 x4) h nx=.ok True:=λy n x2 x3 x4 hy hn hK'=>by
  rw [yu.t22,zA,zA,yu.fF,show (AV.int .u64 65536)=U 65536 from rfl,uGeq,zB,yu.v3];by_cases c:65536<=y
  .rw [Zac c,zC,zA,yu.fU,show (AV.int .u64 16)=.int .u64 ((16:Nat):Int) from rfl,uShr (by omega),yu.nu,jo (by omega),show (n:Int)+16=((n+16:Nat):Int) by omega];exact s3 _ _ _ _ _ (by omega) (by omega) λt h1 h2=>by
    have:=hK' (t+16) (zbz h1 c (by omega)) (by omega)
    rwa [show n+(t+16)=n+16+t by omega] at this
  .rw [Zab c,zD,zE];exact s3 _ _ _ _ _ (by omega) (by omega) λt h1 h2=>hK' t h1 (by omega)
 rw [yu.go,yu.t24,zA,yu.zu,zA,zA,yu.zo,show (AV.int .u64 4294967296)=U 4294967296 from rfl,uGeq,zB,yu.v2];by_cases c:4294967296<=x
 .rw [Zac c,zC,zA,yu.yw,show (AV.int .u64 32)=.int .u64 ((32:Nat):Int) from rfl,uShr (by omega),yu.vk];exact s2 _ 32 _ _ _ (by omega) (by omega) λt h1 h2=>by
   have:=fin (zbz h1 c (by omega))
   rwa [show t+32=32+t by omega] at this
 .rw [Zab c,zD,zE];exact s2 _ 0 _ _ _ (by omega) (by omega) λt h1 h2=>by
   have:=fin h1
   rwa [show t=0+t by omega] at this
theorem uQuo {a b:Nat} {K:AV->OP} (hb:1<=b) (ha:a<18446744073709551616):za .quo .int (U a) (U b) K=K (U (a / b)):=by
 have e:za .quo .int (U a) (U b) K=(bif ieq (b:Int) 0 then Out.no 5 else qx (IntKind.u64.wrap ((a:Int).tdiv b)) λz=>K (.int .u64 z)):=rfl;have h0:ieq (b:Int) 0=false:=by
  cases b with
  | zero=>omega
  | succ b=>rfl
 have h1:a / b<=a:=Zcl a b;rw [e,h0,cond_false,jL,show (a:Int).tdiv b=((a / b:Nat):Int) from rfl]
 generalize a / b=q at *
 rw [zqj (by omega)]
theorem uRem {a b:Nat} {K:AV->OP} (hb:1<=b) (ha:a<18446744073709551616):za .rem .int (U a) (U b) K=K (U (a%b)):=by
 have e:za .rem .int (U a) (U b) K=(bif ieq (b:Int) 0 then Out.no 5 else qx ((a:Int).tmod b) λz=>K (.int .u64 z)):=rfl;have h0:ieq (b:Int) 0=false:=by
  cases b with
  | zero=>omega
  | succ b=>rfl
 rw [e,h0,cond_false,jL,show (a:Int).tmod b=((a%b:Nat):Int) from rfl]
theorem zqq {b q r d a z A:Nat} (h:A=z*d+r) (hq:(r*b+a)=q*d+(r*b+a)%d):a+b*A=(q+b*z)*d+(r*b+a)%d:=by
 rw [h,Zbn,Zek,Zef,Zby b r];omega
theorem zqr {k:Nat} {Q:List Nat}:List.replicate (k+1) 0++Q=List.replicate k 0++0::Q:=by
 rw [List.replicate_succ',Zcg];rfl
theorem zqs {b:Nat} {l:List Nat} {k:Nat} (h:k<=l.length):bv b l=bv b (l.take k)+b ^ k*bv b (l.drop k):=by
 have:=qW b (l.take k) (l.drop k)
 rwa [Zfx,Zai,Zbw h] at this
theorem uAgg {N:Pa->Prop} {O:AV->Prop} {hh:T Blk} {l:List AV} (h:∀ v∈l,rJ v=true):Frz True N O hh (.agg l) (.agg l) :=
 .agg _ _ rfl (Zaw.2 λv hv=>rJ.qb (h v hv)) λi v v' h1 h2=>by rw [h1] at h2;cases h2;exact zS (h v (Zad h1))
abbrev D (m:Nat):AV:=I (m:Int)
def bq (l:List Nat):AV:=.lst 1 l.length (l.map D)
theorem zqt (l:List Nat):∀ v∈l.map D,rJ v=true:=λv hv=>by obtain ⟨x,_,rfl⟩:=Zar.1 hv;rfl
theorem kX (l:List Nat):rJ (bq l)=true:=qE (zqt l)
theorem dGet {l:List Nat} {i x:Nat} (h:l[i]? = some x):(l.map D)[i]? = some (D x):=by rw [Zgx,h];rfl
theorem dLen {l:List Nat} {K:AV->OP}:sLen (bq l) K=K (I l.length):=zW ..
theorem dIx {l:List Nat} {i:Nat} {j:Int} {op:AV->OP} (hj:j=(i:Int)) (hi:i<l.length):zJ 1 (bq l) (I j) op=op (.fp ((l.map D).drop (i*1))):=cu hj hi
theorem dLd {l:List Nat} {i x:Nat} {h:T Blk} {op:AV->OP} (hx:l[i]? = some x):zG (.fp ((l.map D).drop (i*1))) h op=op (D x):=ldL (dGet hx)
theorem Hp.letD {h0 h:T Blk} {nx:Pa} {L:List Ob} {id:Pa} {l:List Nat} {n:Nat} (H:Hp h0 h nx (.arr id (l.map D)::L)) (hn:l.length=n):∃ h',kS h' h/\Hp h0 h' nx L/\tN h' h (.sl id 0 n (some n) 1) (bq l):=by
 subst hn;exact ⟨_,zbn,H.zqo,qc.frz (H.own _ (Zaj ..)) (T.get_set_same _ _ _ _) (Zaf _) (by simp) (zqt l)⟩
theorem zym {l:List Nat} {i:Nat} {op:AV->OP} (hl:1<=l.length) (hi:i<=l.length):wX 1 (bq l) none (some (I (i:Int))) none op=op (bq (l.take i)):=by
 show (bif Nat.beq 1 1&&Nat.ble 1 l.length then (match bnd (some (I (i:Int))) l.length l.length with | none=>Out.no 17 | some h=>match bnd none h 0 with | none=>.no 17 | some q=>op (.lst 1 (h-q) (((l.map D).drop (q*1)).take ((h-q)*1)))) else .no 17)=_;rw [Zag hl];have:bnd (some (I (i:Int))) l.length l.length=some i:=by
  show (bif Nat.ble i l.length then some i else none)=_;rw [Zag hi];rfl
 rw [this];show op (.lst 1 (i-0) (((l.map D).drop (0*1)).take ((i-0)*1)))=_;unfold bq;rw [Zai,Zbw hi,Zfv];simp
theorem Hp.ax {h0 h:T Blk} {nx:Pa} {L:List Ob} (H:Hp h0 h nx L) (e:Nat):Hp h0 h nx (.gro none e 0 []::L) :=
  ⟨H.keep,fun x hx=>by rcases Zas.1 hx with rfl | q;· exact ⟨rfl,rfl⟩
                       . exact H.own x q,λn hn=>H.off n (by simpa [Ob.names] using hn),by have:=H.nd;simpa [Ob.names] using this,H.fr⟩
theorem ze1 {l:List Nat} (hd:Dg 1000000000 l) (hl:l.length<=1000000):Pure Tryz.prog B 269 [bq l] (· = bq (dg 1000000000 (bv 1000000000 l))):=by
 refine zT λh nx K H0 hK=>zL zN yC 1000010 λhf => ?_;rw [gq.go,gq.t12,zA,gq.zu,zA,zI];refine gq.t7_L (λm x0 h' nx'=>x0=bq (l.take m)/\m<=l.length/\bv 1000000000 (l.take m)=bv 1000000000 l/\Hp h h' nx' []) (m:=l.length) (by omega) ⟨by rw [Zcu],by omega,by rw [Zcu],H0⟩ ?_;rintro m z0 z2 h3 nx3 R ⟨rfl,hm,hb,H3⟩ hR;have fin:Nm (l.take m)->K (bq (l.take m)) h3 nx3=.ok True:=λhn=>hK _ _ _ _ _ H3 (zS (kX _)) (by rw [<- hb,<- bZ (by decide) hd.take hn]);have hlen:(l.take m).length=m:=by rw [Zai];omega
 rw [gq.t6,zA,zA,gq.zo,gq.tJ,gq.tK,dLen,pz,hlen];cases m with
 | zero =>
  rw [Zab (by omega)];simp only [jD];rw [gq.aH,gq.sQ];simp only [jD,yB];rw [zB,gq.v2,zD,zX,yD,zA,gq.nu];simp only [zF,zO];rw [gq.ret];exact fin (by simp [Nm])
 | succ k =>
  have e:l[k]? = some (l.getD k 0):=getD_some (by omega);have e':(l.take (k+1))[k]? = some (l.getD k 0):=by rw [Zhe (by omega),e]
  rw [Zac (by omega)];simp only [yL];rw [dLen,hlen,pu (by omega),gq.aH,gq.sQ];simp only [yL];rw [dIx (i:=k) (by omega) (by omega),dLd e',qz,zY,zB,gq.v2];by_cases d:l.getD k 0=0
  .rw [Zac (by omega),zC,zE,zI,gq.ng,dLen,hlen,pu (by omega),show ((k+1:Nat):Int)-1=((k:Nat):Int) by omega,zym (by omega) (by omega),List.take_take,Zbw (by omega)];refine hR k _ _ _ _ (by omega) ⟨rfl,by omega,?_,H3⟩;rw [vH e,d] at hb;simpa using hb
  .rw [Zab (by omega),zD,zX,yD,zA,gq.nu];simp only [zF,zO];rw [gq.ret];exact fin (ztn e d)
def oP (z:Int):AV:=.agg [.bool (decide (z<0)),bq (dg 1000000000 z.natAbs)]
theorem zyn {b:Bool} {l:List Nat} {K:AV->OP}:uX [(.bool false),.zb] [(0,1,.bool b),(1,1,bq l)] K=K (.agg [.bool b,bq l]):=nr rfl
theorem dAgg {N:Pa->Prop} {O:AV->Prop} {hh:T Blk} {b:Bool} {l:List Nat}:Frz True N O hh (.agg [.bool b,bq l]) (.agg [.bool b,bq l]):=uAgg λv hv=>by
 simp only [Zas,List.not_mem_nil,or_false] at hv;rcases hv with rfl | rfl
 .rfl
 .exact kX l
theorem ze2 {n:Nat} (h:n≠0):1<=(dg 1000000000 n).length:=by rw [qJ (by decide) h];simp
theorem xF {b:Bool} {l:List Nat} (hd:Dg 1000000000 l) (hl:l.length<=1000000):Pure Tryz.prog B 214 [.bool b,bq l] (· = oP (if b then -(bv 1000000000 l:Int) else (bv 1000000000 l:Int))):=by
 refine zT λh nx K H0 hK=>zL zN yC 100 λhf => ?_;rw [fH.go,fH.t5,zA,fH.zu];refine H0.alloc λp h1 nx1 H1 => ?_;rw [zA,fH.zo];refine ze1 hd hl _ _ _ _ ?_;rintro _ rfl _;rw [zA,fH.yw];have key:∀ c:Bool,c=(b&&decide (0<bv 1000000000 l))->(uX [(.bool false),.zb] [(0,1,.bool c),(1,1,bq (dg 1000000000 (bv 1000000000 l)))] λv5=>zV 2 (.ptr p 0) v5 h1 nx1 λv6 h7 n8=>IR.run .ret (CS Tryz.prog B) 100 (fnO fH.res K) (zi fH.res K) (fH.fr (.bool b) (bq (dg 1000000000 (bv 1000000000 l))) (.ptr p 0)) h7 n8)=.ok True:=by
  intro c hc;rw [zyn];refine H1.jh (l2:=[.bool c,bq (dg 1000000000 (bv 1000000000 l))]) (k:=0) rfl rfl rfl λh2 H2 => ?_;simp only [zF,zO];rw [fH.ret,H2.zm (k:=0) (n:=2) rfl rfl];refine hK _ _ _ _ _ H2 dAgg ?_;unfold oP;subst hc;cases b with
  | false=>rw [if_neg (by decide),Zbo,Zab (show ¬ ((bv 1000000000 l:Int)<0) by omega)];rfl
  | true =>
   rw [if_pos rfl,Zdz,Zbo,Bool.true_and]
   congr 3
   exact decide_eq_decide.2 (by omega)
 cases b with
 | false =>
  simp only [jD,yB];exact key _ rfl
 | true =>
  simp only [yL];rw [dLen,pz,zY];refine key _ ?_;rw [Bool.true_and];refine decide_eq_decide.2 ?_;rcases Zgl (bv 1000000000 l) with q | q
  .rw [q,gN];simp
  .have:=ze2 (n:=bv 1000000000 l) (by omega);omega
theorem ztp {a b:List Nat} (ha:a.length<=1000000) (hb:b.length<=1000000):Pure Tryz.prog B 216 [bq a,bq b] (· = I (cmpW a b)):=by
 refine zT λh nx K H0 hK=>zL zN yC 1000010 λhf' => ?_;have ret:∀ {h1 nx1 L} {z:Int},Hp h h1 nx1 L->z=cmpW a b->K (I z) h1 nx1=.ok True:=λH e=>hK _ _ _ _ _ H (zS rfl) (by rw [e]);rw [yh.go,yh.t38,zA,yh.zu,zA,zA,yh.zo,dLen,dLen,fB,zB,yh.v4];by_cases c:a.length=b.length
 case neg =>
  rw [Zab (by omega),Zam,zC,zA,zA,yh.yw,dLen,dLen,jf,zB,yh.v5];by_cases d:a.length<b.length
  .rw [Zac (by omega),zC,zA,yh.vk];simp only [zF,zO];rw [yh.ret];exact ret H0 (by rw [cmpW,if_pos c,if_pos d])
  .rw [Zab (by omega),zD,zE,zA,yh.fF];simp only [zF,zO];rw [yh.ret];exact ret H0 (by rw [cmpW,if_pos c,if_neg d])
 rw [Zac (by omega),Zao,zD,zE,zA,zA,yh.rH,dLen,pu (by omega),zI];refine yh.zfm (λm x3 h' nx'=>∃ k:Nat,x3=I ((k:Int)-1)/\m=k/\k<=a.length/\cmpT a b k=cmpT a b a.length/\Hp h h' nx' []) (m:=a.length) (by omega) ⟨a.length,rfl,rfl,by omega,rfl,H0⟩ ?_;rintro m z2 z3 z6 z7 z8 h3 nx3 R ⟨k,rfl,rfl,hk,hc,H3⟩ hR;rw [yh.t30,zA,zA,yh.rP,fM];cases m with
 | zero =>
  rw [Zab (by omega),zB,yh.v6,zD,zX,yD,zA,yh.zfn];simp only [zF,zO];rw [yh.ret];exact ret H3 (by rw [cmpW,if_neg (λq=>q c),<- hc];rfl)
 | succ k =>
  have ea:=getD_some (l:=a) (k:=k) (by omega);have eb:=getD_some (l:=b) (k:=k) (by omega);rw [cmpT] at hc;rw [Zac (by omega),zB,yh.v6,zC,zE,zA,zI,zA,zA,yh.sw,dIx (i:=k) (by omega) (by omega),dLd ea,dIx (i:=k) (by omega) (by omega),dLd eb,jf,zB,yh.v7];by_cases e:a.getD k 0<b.getD k 0
  .rw [if_neg (by omega),if_pos e] at hc;rw [Zac (by omega),zC,zA,yh.tL];simp only [zF,vI,zO];rw [yh.ret];exact ret H3 (by rw [cmpW,if_neg (λq=>q c),<- hc])
  rw [Zab (by omega),zD,zE,zA,yh.zaa,dIx (i:=k) (by omega) (by omega),dLd ea,dIx (i:=k) (by omega) (by omega),dLd eb,pz,zB,yh.v8];by_cases d:a.getD k 0=b.getD k 0
  .rw [if_pos d] at hc;rw [Zab (by omega),zD,zE,yh.om,pu (by omega)];exact hR k _ _ _ _ _ _ _ (by omega) ⟨k,by congr 1;omega,rfl,by omega,hc,H3⟩
  .rw [if_neg d,if_neg e] at hc;rw [Zac (by omega),zC,zA,yh.tO];simp only [zF,vI,zO];rw [yh.ret];exact ret H3 (by rw [cmpW,if_neg (λq=>q c),<- hc])
theorem zg4 {a b:Int} {K:AV->OP} (ha : -9223372036854775808<=a/\a<=9223372036854775807) (hb:1<=b):za .quo .int (I a) (I b) K=K (I (a.tdiv b)):=by
 have e:za .quo .int (I a) (I b) K=(bif ieq b 0 then Out.no 5 else qx (IntKind.i64.wrap (a.tdiv b)) λz=>K (.int .i64 z)):=rfl;have h0:ieq b 0=false:=by rw [wZ];exact Zab (by omega)
 rw [e,h0,cond_false,jL,Go.IntWalk.i64_quo' a b ⟨ha.1,ha.2,hb⟩]
theorem zg5 {a b:Int} {K:AV->OP} (hb:1<=b):za .rem .int (I a) (I b) K=K (I (a.tmod b)):=by
 have e:za .rem .int (I a) (I b) K=(bif ieq b 0 then Out.no 5 else qx (a.tmod b) λz=>K (.int .i64 z)):=rfl;have h0:ieq b 0=false:=by rw [wZ];exact Zab (by omega)
 rw [e,h0,cond_false,jL]
theorem Hp.oH {h0 h:T Blk} {nx:Pa} {L:List Ob} {o:Option Pa} {n bytes:Nat} {l:List AV} {z v:AV} {K:Kw Prop} (H:Hp h0 h nx (.gro o 1 n l::L)) (hn:n+1<=1000000) (hb:bytes*1000000<=70368744177664) (hv:v.cells=some [v]) (hs:qb v=true)
  (hK:∀ o' h' nx',Hp h0 h' nx' (.gro o' 1 (n+1) (l++[v])::L)->K (uw o' 1 (n+1)) h' nx'=.ok True) :
  (yS 1 1 [z] [(0,1,v)] h nx λv2 h3 n4=>rY 1 bytes (uw o 1 n) v2 h3 n4 K)=.ok True:=by
 have fill:gL (ni 1 [z]) [(0,1,v)]=some [v]:=by simp only [gL,hv];rfl
 refine H.fq (l:=[v]) fill λid h1 n1 H1 => ?_;refine H1.appN (k:=1) (new:=[v]) (c:=1) rfl ((H1.own _ (Zaj ..)).rd (n:=1) (e:=1) rfl) rfl (by simp [hs]) (by omega) hb hn λo' h2 n2 _ H2 => ?_;exact hK o' h2 n2 (Hp.drop H2)
theorem Hp.zkp {h0 h:T Blk} {nx:Pa} {L:List Ob} {o:Option Pa} {n:Nat} {Z:List Nat} (H:Hp h0 h nx (.gro o 1 n (Z.map D)::L)) (hn:Z.length=n):∃ h',kS h' h/\Hp h0 h' nx L/\tN h' h (uw o 1 n) (bq Z):=by
 obtain ⟨h',a,b,c⟩:=H.zi3 (zqt Z);exact ⟨h',a,b,by rw [bq,hn];exact c⟩
theorem sMkD {n:Nat} {x:Int} {h0 h:T Blk} {nx:Pa} {L:List Ob} {K:Kw Prop} (H:Hp h0 h nx L) (hx:x=(n:Int)) (hn:n<=1000000)
  (hK:∀ id h' nx',Hp h0 h' nx' (.arr id ((List.replicate n 0).map D)::L)->K (.sl id 0 n (some n) 1) h' nx'=.ok True):q8 1 8 [(I 0)] (I x) (I x) h nx K=.ok True :=
 H.mk1 n hx hx hn (by omega) λid h' nx' H'=>hK id h' nx' (by rw [List.map_replicate];exact H')
theorem zg6 {l:List Nat} {d:Nat} (hd:1<=d) (hdN:d<1000000000) (hl:Dg 1000000000 l) (hs:l.length<=100000):Pure Tryz.prog B 268 [bq l,D d] (· = .tup [bq (dg 1000000000 (bv 1000000000 l / d)),D (bv 1000000000 l%d)]):=by
 refine zT λh nx K H0 hK=>zL zN yC 1000010 λhf => ?_;rw [jd.go,jd.t24,zA,jd.zu,zA,jd.zo,dLen];refine sMkD (n:=l.length) H0 rfl (by omega) λid h1 nx1 H1 => ?_;rw [zA,jd.yw,zA,zA,jd.vk,dLen,pu (by omega),zI];refine jd.zab (λm x5 x6 h' nx'=>∃ (r:Nat) (Q:List Nat),x5=D r/\x6=I ((m:Int)-1)/\m<=l.length/\Q.length=l.length-m/\Dg 1000000000 Q/\r<d/\bv 1000000000 (l.drop m)=bv 1000000000 Q*d+r/\Hp h h' nx' [.arr id ((List.replicate m 0++Q).map D)]) (m:=l.length) (by omega) ⟨0,[],rfl,rfl,by omega,by simp,λ_ h=>by simp at h,by omega,by simp [bv],by simpa using H1⟩ ?_;rintro m z5 z6 z7 z8 h3 nx3 R ⟨r,Q,rfl,rfl,hm,hQ,hdQ,hr,hv,H3⟩ hR;rw [jd.t15,zA,zA,jd.ng,fM];cases m with
 | zero =>
  rw [Zab (by omega),zB,jd.v8,zD,zX,yD,zA,jd.sJ];simp only [List.replicate_zero,Zbk] at H3;obtain ⟨h5,hkp,H5,hF⟩:=H3.letD (n:=l.length) (by omega);refine dQ hkp (.cons hF .nil) ?_;refine ze1 hdQ (by omega) _ _ _ _ ?_;rintro _ rfl _;simp only [zF,zO];rw [jd.ret];refine hK _ _ _ _ _ H5 (j4 (zS (kX _)) (zS rfl)) ?_;rw [Zcq] at hv;obtain ⟨a1,a2⟩:=zyk hv hr;rw [a1,a2]
 | succ k =>
  have ea:=getD_some (l:=l) (k:=k) (by omega);have haW:=mS (k:=k) (by decide) hl;have e0:l.drop k=l.getD k 0::l.drop (k+1):=by
   have ea:=ea;rw [Zgv (by omega)] at ea;rw [Zbb (by omega),Option.some.inj ea]
  generalize hX:l.getD k 0=x at *
  have hdm:r*1000000000+x=(r*1000000000+x) / d*d+(r*1000000000+x)%d:=by
   rw [Zby _ d];exact (Nat.div_add_mod _ _).symm
  have hqW:(r*1000000000+x) / d<1000000000:=by
   rw [Zfy (by omega)];have:(r+1)*1000000000<=d*1000000000:=Zbj _ hr;omega
  have hrd:(r*1000000000+x)%d<d:=Zds _ (by omega);have eq1:((r:Int)*1000000000+(x:Int)).tdiv (d:Int)=(((r*1000000000+x) / d:Nat):Int):=by rw [Int.tdiv_eq_ediv_of_nonneg (by omega)];simp
  have eq2:((r:Int)*1000000000+(x:Int)).tmod (d:Int)=(((r*1000000000+x)%d:Nat):Int):=by rw [Zex (by omega)];simp
  rw [Zac (by omega),zB,jd.v8,zC,zE,zA,zI,zA,jd.fF,rE (by omega),dIx (i:=k) (by omega) (by omega),dLd ea,jo (by omega),zA,jd.fU];rw [zg4 (by omega) (by omega),eq1,sIx (i:=k) (by omega) (by omega)];rw [zqr] at H3;refine H3.store (k:=0) rfl (by simp) rfl λh4 H4 => ?_;rw [jd.nu,zg5 (by omega),eq2]
  generalize hQ':(r*1000000000+x) / d=q at *
  simp only [Zfh] at H4;rw [Zbh,Zdu,dU (by simp)] at H4;rw [jd.rP,pu (by omega)];refine hR k _ _ _ _ _ _ (by omega) ⟨_,q::Q,rfl,by congr 1;omega,by omega,by simp;omega,?_,hrd,?_,by simpa using H4⟩
  .exact (Dg.one hqW).append hdQ
  .rw [e0,bv,bv];exact zqq hv hdm
theorem Hp.appE {h0 h:T Blk} {nx e:Pa} {L:List Ob} {K:Kw Prop} {w:AV} {new:List AV} {c bytes:Nat} (H:Hp h0 h nx (.arr e []::L)) (hr:∀ (no:OP) (K':List AV->Nat->OP),xY w h no K'=K' new c) (hl:new.length=c) (hs:new.all qb=true) (hb:bytes*1000000<=70368744177664) (hc1:1<=c) (hc:c<=1000000)
  (hK:∀ id h' nx',Hp h0 h' nx' (.gro (some id) 1 c new::L)->K (.sl id 0 c none 1) h' nx'=.ok True) :
  rY 1 bytes (.sl e 0 0 (some 0) 1) w h nx K=.ok True:=by
 unfold rY appA;rw [hr];have hcc:(Nat.ble (bytes*1000000) 70368744177664&&Nat.beq new.length (c*1)&&Nat.ble 1 1&&new.all qb)=true:=by
  simp only [Zal,hs,and_true];exact ⟨⟨Zag hb,by rw [hl,Zbv];exact Zbs _⟩,rfl⟩
 rw [hcc,cond_true];obtain ⟨op,t,g1,g2⟩:qc h e []:=H.own _ (Zaj ..);show (bif Nat.beq 1 1&&Nat.ble (0+c) 1000000 then qm (T.get .no e h) _ (.no 35) else .no 36)=_;rw [g1,Zag (by omega)];show (bif Nat.ble (0+c) 0 then (bif Nat.ble (0+(0+c)*1) 0 then wJ e 0 0 (some 0) 1 op 0 t new c h nx _ else .no 32) else wI 0 0 1 t new c h nx _)=_;rw [bleF (by omega),cond_false];unfold wI;rw [yO,yM,Zbg,show yY t 0 (0*1)++new=new from rfl];refine hK nx _ _ (Hp.new (x:=.gro (some nx) 1 c new) H.drop rfl λh' q => ?_);refine ⟨_,by rw [q,hl,Zbv],by rw [hl,Zbv],?_⟩;have:=qZ new;rw [hl] at this;rw [Zbv];exact this
theorem Hp.oQ {h0 h:T Blk} {nx id:Pa} {L:List Ob} {n:Nat} {l:List AV} (H:Hp h0 h nx (.gro (some id) 1 n l::L)):Hp h0 h nx (.arr id l::L):=by
 obtain ⟨t,h1,h2,h3⟩:=H.own _ (Zaj ..);rw [Zbv] at h1 h2 h3;refine ⟨H.keep,λx hx => ?_,λn hn=>H.off n (by simpa [Ob.names] using hn),by have:=H.nd;simpa [Ob.names] using this,H.fr⟩;rcases Zas.1 hx with rfl | q
 .exact ⟨true,t,by rw [h1,h2],by rw [h2];exact h3⟩
 .exact H.own x (Zap _ q)
theorem qb0 {id:Pa} {n i:Nat} {op:AV->OP} (hi:i<=n):wX 1 (.sl id 0 n none 1) none (some (I (i:Int))) none op=op (.sl id 0 i none 1):=by
 have e:wX 1 (.sl id 0 n none 1) none (some (I (i:Int))) none op=(match bnd (some (I (i:Int))) n n with
  | none=>Out.no 17
  | some h=>op (.sl id 0 h none 1)):=rfl
 rw [e,qG hi]
def S9 (n:Nat):Prop:=(dg 1000000000 n).length<=99990
theorem zb0 {b d:Nat} (hb:2<=b) (h:(dg b d).length=1):dg b d=[d]/\d<b:=by
 have od:=qK hb d;have e1:dg b d=[d]:=by
  cases hdd:dg b d with
  | nil=>rw [hdd] at h;cases h
  | cons x l =>
   rw [hdd] at h;have:l=[]:=by cases l with
    | nil=>rfl
    | cons y l=>simp at h
   subst this;have:=od.1;rw [hdd] at this;simp [bv] at this;rw [this]
 exact ⟨e1,od.2.1 d (by rw [e1];simp)⟩
theorem bY {a d:Nat} (hd:1<=d) (hdN:d<1000000000) (ha:S9 a) (hds:S9 d):Pure Tryz.prog B 213 [bq (dg 1000000000 a),bq (dg 1000000000 d)] (· = .tup [bq (dg 1000000000 (a / d)),bq (dg 1000000000 (a%d))]):=by
 refine zT λh nx K H0 hK=>zL zN yC 1000010 λhf => ?_;have oa:=qK (b:=1000000000) (by decide) a;have od:=qK (b:=1000000000) (by decide) d;unfold S9 at ha hds;rw [qh.go,qh.t109,zA,qh.zu,zA,zA,qh.zo];refine ztp (by omega) (by omega) _ _ _ _ ?_;rintro _ rfl _;rw [zto (by decide),jf,zB,qh.v21];by_cases c:a<d
 .rw [Zac (by rw [cmpN,if_pos c];decide),zC,zA,qh.yw];simp only [zF,zO];rw [qh.ret];refine hK _ _ _ _ _ H0 (j4 (.aX 1) (zS (kX _))) ?_;rw [Zet c,Zce c,gN];rfl
 rw [Zab (by rw [cmpN,if_neg c];split <;> decide),zD,zE,zA,zA,qh.uy,dLen,qz,zB,qh.v22];have hla:(dg 1000000000 d).length<=(dg 1000000000 a).length:=by
  rcases Zdj (dg 1000000000 a).length (dg 1000000000 d).length with q | q
  .have:=wU (b:=1000000000) (by decide) q;omega
  .exact q
 have hld1:1<=(dg 1000000000 d).length:=ze2 (by omega);by_cases c1:(dg 1000000000 d).length=1
 .obtain ⟨e1,hdW⟩:=zb0 (b:=1000000000) (by decide) c1;rw [Zac (by omega),zC,e1,zA,qh.fF,dIx (l:=[d]) (i:=0) (j:=0) rfl (by simp),dLd (x:=d) rfl];refine zg6 hd hdW oa.2.1 (by omega) _ _ _ _ ?_;rintro _ rfl _;rw [jB,jE,oa.1,zA,qh.fU];have hml:=Zds a (show 0<d by omega);refine H0.fq (l:=[D (a%d)]) rfl λtb h1 nx1 H1 => ?_;obtain ⟨h2,hkp,H2,hF⟩:=H1.letD (l:=[a%d]) (n:=1) rfl;refine dQ hkp (.cons hF .nil) ?_;refine ze1 (Dg.one (by omega)) (by simp) _ _ _ _ ?_;rintro _ rfl _;simp only [zF,zO];rw [qh.ret];exact hK _ _ _ _ _ H2 (j4 (zS (kX _)) (zS (kX _))) (by simp [bv])
 exact absurd (by rw [qJ (by decide) (by omega),Zet hdN,gN];rfl) c1
def Z9 (k:Nat) (z:Int):Prop:=z.natAbs<1000000000 ^ k
theorem Z9.len {k:Nat} {z:Int} (h:Z9 k z):(dg 1000000000 z.natAbs).length<=k:=qV (by decide) h
theorem Z9.mono {k m:Nat} {z:Int} (h:Z9 k z) (hkm:k<=m):Z9 m z:=Zck h (Zde (by decide) hkm)
theorem Z9.mul {k m:Nat} {a b:Int} (ha:Z9 k a) (hb:Z9 m b):Z9 (k+m) (a*b):=by
 unfold Z9 at *
 rw [Zcc,Zez];exact Zec ha hb
theorem Z9.add {k:Nat} {a b:Int} (ha:Z9 k a) (hb:Z9 k b):Z9 (k+1) (a+b):=by
 unfold Z9 at *
 have h1:=Zfp a b;have h2:1000000000 ^ (k+1)=1000000000 ^ k*1000000000:=Zdi ..;omega
theorem pX {b x y:Nat} (hb:2<=b) (h:x<=y):(dg b x).length<=(dg b y).length:=by
 rcases Zdj (dg b y).length (dg b x).length with q | q
 .have:=wU (b:=b) hb q;omega
 .exact q
theorem xX (z:Int):oP z=.agg [.bool (decide (z<0)),bq (dg 1000000000 z.natAbs)]:=rfl
theorem zg7 {a:Int} {k:Nat} (hk:k<=90000) (ha:Z9 k a):Pure Tryz.prog B 212 [oP a] (· = oP (-a)):=by
 have oa:=qK (b:=1000000000) (by decide) a.natAbs;have la:=ha.len;rw [xX];refine zT λh nx K H0 hK=>zL zN yC 100 λhf => ?_;rw [nR.go,nR.t3,zA,nR.zu];refine H0.box (l:=[.bool (decide (a<0)),bq (dg 1000000000 a.natAbs)]) rfl λpa h1 nx1 H1 => ?_;refine H1.alloc λp h3 nx3 H3 => ?_;rw [zA,nR.zo,sFx,H3.load (k:=1) (i:=0+0) rfl rfl,jH,sFx,H3.load (k:=1) (i:=0+1) rfl rfl];refine xF oa.2.1 (by omega) _ _ _ _ ?_;rintro _ rfl _;have e:(if !decide (a<0) then -(bv 1000000000 (dg 1000000000 a.natAbs):Int) else (bv 1000000000 (dg 1000000000 a.natAbs):Int)) = -a:=by
  rw [oa.1];by_cases d:a<0
  .rw [Zac d,if_neg (by decide)];omega
  .rw [Zab d,if_pos (by decide)];omega
 rw [e];refine H3.jh (l2:=[.bool (decide (-a<0)),bq (dg 1000000000 (-a).natAbs)]) (k:=0) rfl rfl rfl λh4 H4 => ?_;simp only [zF,zO];rw [nR.ret,H4.zm (k:=0) (n:=2) rfl rfl];exact hK _ _ _ _ _ H4 dAgg rfl
theorem zmk {a b:Nat} (hbN:b<1000000000) (ha:S9 a) (hb:S9 b):Pure Tryz.prog B 208 [bq (dg 1000000000 a),bq (dg 1000000000 b)] (· = bq (dg 1000000000 (Nat.gcd a b))):=by
 refine zT λh nx K H0 hK=>zL zN yC (b+100) λhf => ?_;rw [uz.go,uz.t14,zA,uz.zu,zA,zI];refine uz.t9_L (λm x0 x1 h' nx'=>∃ x y:Nat,x0=bq (dg 1000000000 x)/\x1=bq (dg 1000000000 y)/\m=y/\y<1000000000/\S9 x/\S9 y/\Nat.gcd x y=Nat.gcd a b/\h'=h/\nx'=nx) (m:=b) (by omega) ⟨a,b,rfl,rfl,rfl,hbN,ha,hb,rfl,rfl,rfl⟩ ?_;rintro m z0 z1 z3 z4 h3 nx3 R ⟨x,y,rfl,rfl,rfl,hmN,hx,hy,hg,rfl,rfl⟩ hR;rw [uz.t8,zA,zA,uz.zo,dLen,pz];by_cases c:m=0
 .subst c;rw [Zgm] at hg;rw [gN,Zab (by simp),zB,uz.v4,zD,zX,yD,zA,uz.xu];simp only [zF,zO];rw [uz.ret,hg];exact hK _ _ _ _ _ H0 (zS (kX _)) rfl
 .have hl:=ze2 c;rw [Zac (by omega),zB,uz.v4,zC,zE,zI,zA,uz.ng];refine bY (by omega) hmN hx hy _ _ _ _ ?_;rintro _ rfl _;have hlt:=Zds x (show 0<m by omega);rw [jB,jE,uz.fZ];refine hR (x%m) _ _ _ _ _ _ hlt ⟨m,x%m,rfl,rfl,rfl,by omega,hy,Zax (pX (by decide) (by omega)) hy,?_,rfl,rfl⟩;rw [<- hg,Zfi x m,Nat.gcd_rec m x,Zfi]
theorem zyo {a b:Nat} (ha:a<=9223372036854775807) (hb:b<=9223372036854775807):Pure Tryz.prog B 210 [I (a:Int),I (b:Int)] (· = I ((Nat.gcd a b:Nat):Int)):=by
 refine zT λh nx K H0 hK=>zL zN yC (b+100) λhf => ?_;rw [qp.go,qp.t12,zA,qp.zu,zA,zI];refine qp.t7_L (λm x0 x1 h' nx'=>∃ x y:Nat,x0=I (x:Int)/\x1=I (y:Int)/\m=y/\y<=9223372036854775807/\Nat.gcd x y=Nat.gcd a b/\h'=h/\nx'=nx) (m:=b) (by omega) ⟨a,b,rfl,rfl,rfl,hb,rfl,rfl,rfl⟩ ?_;rintro m z0 z1 z3 h3 nx3 R ⟨x,y,rfl,rfl,rfl,hy,hg,rfl,rfl⟩ hR;rw [qp.t6,zA,zA,qp.zo,pz];by_cases c:m=0
 .subst c;rw [Zgm] at hg;rw [Zab (by omega),zB,qp.v3,zD,zX,yD,zA,qp.nu];simp only [zF,zO];rw [qp.ret,hg];exact hK _ _ _ _ _ H0 (zS rfl) rfl
 .have hlt:=Zds x (show 0<m by omega);rw [Zac (by omega),zB,qp.v3,zC,zE,zI,qp.ng,zg5 (by omega),show (x:Int).tmod (m:Int)=((x%m:Nat):Int) by rw [Zex (by omega)];simp];refine hR (x%m) _ _ _ _ _ hlt ⟨m,x%m,rfl,rfl,rfl,by omega,?_,rfl,rfl⟩;rw [<- hg,Zfi x m,Nat.gcd_rec m x,Zfi]
theorem zg8 {z:Int} (hz : -9223372036854775808<=z/\z<=9223372036854775807):Pure Tryz.prog B 134 [I z] (· = oP z):=by
 refine zT λh nx K H0 hK=>zL zN yC 9223372036854775900 λhf => ?_;have hN:9223372036854775808<9223372036854775900:=by decide
 generalize 9223372036854775900=N at hN ⊢
 rw [yx.go,yx.t25,zA,yx.zu];refine H0.alloc λp h1 nx1 H1 => ?_;rw [zA,yx.zo,zA,yx.yw,jf,zA,zI];refine yx.zzb (λm x0 x2 h' nx'=>∃ (y:Int) (i:Nat) (Z:List Nat) (o:Option Pa),x0=I y/\x2=uw o 1 i/\m=y.natAbs/\m<=9223372036854775808 /\ -9223372036854775808<=y/\y<=9223372036854775807/\Z.length=i/\Dg 1000000000 Z/\bv 1000000000 Z+1000000000 ^ i*m=z.natAbs/\i<=3/\m*1000000000 ^ i<=9223372036854775808/\Hp h h' nx' [.gro o 1 i (Z.map D),.arr p [.bool false,.zb]]) (m:=z.natAbs) (by omega) ⟨z,0,[],none,rfl,rfl,rfl,by omega,hz.1,hz.2,rfl,λ_ h=>by simp at h,by simp [bv],by omega,by simp;omega,H1.ax 1⟩ ?_;rintro m z0 z2 z4 z5 z6 h3 nx3 R ⟨y,i,Z,o,rfl,rfl,rfl,hm,hy1,hy2,hZ,hd,hs,hi3,hb,H3⟩ hR;rw [yx.t17,zA,zA,yx.vk,fB];by_cases c:y=0
 .subst c;simp only [Int.natAbs_zero,Nat.mul_zero,Zen] at hs;rw [Zac rfl,Zao,zB,yx.v5,zD,zX,yD,yx.t21,zA,yx.aI];obtain ⟨h5,hkp,H5,hF⟩:=H3.zkp hZ;refine dQ hkp (.cons (.bool _) (.cons hF .nil)) ?_;refine xF hd (by omega) _ _ _ _ ?_;rintro _ rfl _;have e:(if decide (z<0) then -(bv 1000000000 Z:Int) else (bv 1000000000 Z:Int))=z:=by
   rw [hs];by_cases d:z<0
   .rw [Zac d,if_pos rfl];omega
   .rw [Zab d,if_neg (by decide)];omega
  rw [e];refine H5.jh (l2:=[.bool (decide (z<0)),bq (dg 1000000000 z.natAbs)]) (k:=0) rfl rfl rfl λh4 H4 => ?_;simp only [zF,zO];rw [yx.ret,H4.zm (k:=0) (n:=2) rfl rfl];exact hK _ _ _ _ _ H4 dAgg rfl
 .have i2:i<=2:=by
   rcases Zdj 2 i with q | q
   .exfalso
    have e:i=3:=by omega
    subst e;have:1*1000000000 ^ 3<=y.natAbs*1000000000 ^ 3:=Zbj _ (by omega);omega
   .exact q
  have et:(y.tmod 1000000000).natAbs=y.natAbs%1000000000:=by rw [Int.natAbs_tmod];rfl
  have eq:(y.tdiv 1000000000).natAbs=y.natAbs / 1000000000:=by rw [Int.natAbs_tdiv];rfl
  have hml:=Zds y.natAbs (show 0<1000000000 by decide);have hdv:y.natAbs / 1000000000<y.natAbs:=Nat.div_lt_self (by omega) (by decide);have hmd:=Nat.mod_add_div y.natAbs 1000000000;have fin:∀ (z5 z6:AV) (w:Int),w=((y.natAbs%1000000000:Nat):Int)->yx.t13.run (CS Tryz.prog B) N (((fnO yx.res K).blk 0 (yx.t21.run (CS Tryz.prog B) N (fnO yx.res K) (zi yx.res K))).blk 1 R) R (yx.fr (I y) (.ptr p 0) (uw o 1 i) (.bool (decide (z<0))) (I w) z5 z6) h3 nx3=.ok True:=by
   rintro z5 z6 _ rfl;rw [yx.t13,zA,yx.xu];refine H3.oH (v:=D (y.natAbs%1000000000)) (by omega) (by decide) rfl rfl λo' h4 n4 H4 => ?_;rw [yx.rH,zg4 ⟨hy1,hy2⟩ (by omega)];refine hR _ _ _ _ _ _ _ _ (by rw [eq];exact hdv) ⟨y.tdiv 1000000000,i+1,Z++[y.natAbs%1000000000],o',rfl,rfl,rfl,by omega,by omega,by omega,by simp [hZ],hd.append (Dg.one hml),?_,by omega,?_,by rw [Zbh];exact H4⟩
   .rw [eq,c8,hZ,Zdi,Zcv,Zef,<- Zek,hmd];exact hs
   .rw [eq,Zdi,Zby (1000000000 ^ i),<- Zef];exact Zax (Zbj _ (by omega)) hb
  rw [Zab c,Zam,zB,yx.v5,zC,zE,zI,zA,yx.uy,zg5 (by omega),zA,zA,yx.fF,jf,zB,yx.v6];by_cases d:y.tmod 1000000000<0
  .rw [Zac d,zC,yx.fU,pu (by omega)];exact fin _ _ _ (by omega)
  .rw [Zab d,zD,zE];exact fin _ _ _ (by omega)
theorem aL (s:List UInt8) {K:AV->OP}:qC (.str s) K=K (I s.length):=by
 show (pq s.length λn=>K (.int .i64 (.ofNat n)))=_;rw [yM];rfl
theorem tCat {a b:List UInt8} {K:AV->OP} (h:a.length+b.length<=1000000):za .add .str (.str a) (.str b) K=K (.str (a++b)):=by
 show (bif Nat.ble (a.length+b.length) 1000000 then K (.str (a++b)) else .no 5)=_;rw [Zag h];rfl
theorem tSub {s:List UInt8} {a b:Nat} {x y:Int} {K:AV->OP} (hx:x=(a:Int)) (hy:y=(b:Int)) (hab:a<=b) (hb:b<=s.length):gI (.str s) (some (I x)) (some (I y)) K=K (.str ((s.drop a).take (b-a))):=by
 subst hx;subst hy
 show (match bnd (some (I (b:Int))) s.length s.length with
   | none=>Out.no 18
   | some h=>match bnd (some (I (a:Int))) h 0 with
    | none=>.no 18
    | some l=>K (.str ((s.drop l).take (h-l))))=_
 rw [qG hb]
 dsimp only
 rw [qG hab]
theorem zb1 {s:List UInt8} {a:Nat} {x:Int} {K:AV->OP} (hx:x=(a:Int)) (ha:a<=s.length):gI (.str s) (some (I x)) none K=K (.str (s.drop a)):=by
 subst hx
 show (match bnd (some (I (a:Int))) s.length 0 with
    | none=>Out.no 18
    | some l=>K (.str ((s.drop l).take (s.length-l))))=_
 rw [qG ha]
 dsimp only
 rw [Zak (by rw [Zcp];omega)]
theorem tTo {s:List UInt8} {b:Nat} {y:Int} {K:AV->OP} (hy:y=(b:Int)) (hb:b<=s.length):gI (.str s) none (some (I y)) K=K (.str (s.take b)):=by
 subst hy
 show (match bnd (some (I (b:Int))) s.length s.length with
   | none=>Out.no 18
   | some h=>K (.str ((s.drop 0).take (h-0))))=_
 rw [qG hb];rfl
def dch (x:Nat):UInt8:=UInt8.ofNat (48+x)
def rT (n w:Nat):List Nat:=dg 10 n++List.replicate (w-(dg 10 n).length) 0
def xk (n w:Nat):List UInt8:=(rT n w).reverse.map dch
theorem ztq:∀ n<10,(([48,49,50,51,52,53,54,55,56,57]:List UInt8).drop n).take 1=[dch n]:=by decide +kernel
theorem zdi {y w:Nat} (h:0<y\/0<w):rT y w=y%10::rT (y / 10) (w-1):=by
 unfold rT;rcases Zgl y with e | e
 .subst e;obtain ⟨v,rfl⟩:∃ v,w=v+1:=⟨w-1,by omega⟩;rw [Nat.zero_div,gN]
  rfl
 .rw [qJ (by decide) (by omega),Zbt,Zbd,show w-((dg 10 (y / 10)).length+1)=w-1-(dg 10 (y / 10)).length by omega]
theorem zdj:rT 0 0=[]:=by unfold rT;rw [gN];rfl
theorem zg9 {n w:Nat} (hn:n<10 ^ 19) (hw:w<=19):(rT n w).length<=19:=by
 have:=qV (b:=10) (by decide) hn;unfold rT;rw [Zae,Zav];omega
theorem vD {n w:Nat} (hn:n<=9223372036854775807) (hw:w<=19):Pure Tryz.prog B 211 [I (n:Int),I (w:Int)] (· = .str (xk n w)):=by
 refine zT λh nx K H0 hK=>zL zN yC (n+w+10) λhf => ?_;rw [jc.go,jc.t16,zA,jc.zu,zA,jc.zo,zA,zI];refine jc.zm6 (λm x0 x3 h' nx'=>∃ (y:Nat) (A:List Nat),x0=I (y:Int)/\x3=.str (A.reverse.map dch)/\m=y+(w-A.length)/\y<=9223372036854775807/\rT n w=A++rT y (w-A.length)/\h'=h/\nx'=nx) (m:=n+w) (by omega) ⟨n,[],rfl,rfl,rfl,hn,rfl,rfl,rfl⟩ ?_;rintro m z0 z3 z4 h3 nx3 R ⟨y,A,rfl,rfl,hm,hy,he,rfl,rfl⟩ hR;have hlen:=zg9 (n:=n) (w:=w) (by omega) hw;have hAl:A.length<=19:=by
  have:=congrArg List.length he;rw [Zae] at this;omega
 have go:0<y\/0<w-A.length->jc.t3.run (CS Tryz.prog B) (n+w+10) ((fnO jc.res K).blk 0 (jc.t13.run (CS Tryz.prog B) (n+w+10) (fnO jc.res K) (zi jc.res K))) (jc.t8.run (CS Tryz.prog B) (n+w+10) ((fnO jc.res K).blk 0 (jc.t13.run (CS Tryz.prog B) (n+w+10) (fnO jc.res K) (zi jc.res K))) R) (jc.fr (I (y:Int)) (I (w:Int)) (.str []) (.str (A.reverse.map dch)) (.bool true)) h3 nx3=.ok True:=by
  intro hp;have hst:=zdi hp;rw [hst] at he;have e1:(y:Int).tmod 10=((y%10:Nat):Int):=by rw [Zex (by omega)];omega
  have e2:(y:Int).tdiv 10=((y / 10:Nat):Int):=by rw [Int.tdiv_eq_ediv_of_nonneg (by omega)];omega
  have hA1:A.length<=18:=by
   have:=congrArg List.length he;rw [Zae,Zbd] at this;omega
  rw [jc.t3,zB,jc.v4,zC,zE,jc.t8,zI,zA,jc.fZ,zg5 (by omega),e1,zg5 (by omega),e1,jo (by omega),tSub (a:=y%10) (b:=y%10+1) rfl (by omega) (by omega) (by simp;omega),Zct,ztq _ (Zds _ (by decide)),tCat (by simp;omega),jc.uy,zg4 (by omega) (by omega),e2];refine hR (y / 10+(w-(A.length+1))) _ _ _ _ _ (by omega) ⟨y / 10,A++[y%10],rfl,by simp,by rw [Zae];rfl,by omega,by rw [he,Zcg];simp [Nat.sub_sub],rfl,rfl⟩
 rw [jc.t9,zA,zA,jc.yw,jc.r2_0,jc.zwz,pz];by_cases c:0<y
 .rw [Zac (by omega)];simp only [j3,zda,zY];exact go (.inl c)
 rw [Zab (by omega)];simp only [jG];rw [aL,jf];simp only [yB];by_cases d:A.length<w
 .rw [Zac (by simp;omega)];exact go (.inr (by omega))
 obtain rfl:y=0:=by omega
 rw [show w-A.length=0 by omega,zdj,Zba] at he;rw [Zab (by simp;omega),jc.t3,zB,jc.v4,zD,zX,yD,jc.t13,zA,jc.rH];simp only [zF,zO];rw [jc.ret];exact hK _ _ _ _ _ H0 (zS rfl) (by rw [xk,he])
theorem zha (b:Nat):∀ k,bv b (List.replicate k 0)=0
 | 0=>rfl
 | k+1=>by rw [Zgf,bv,zha b k];simp
theorem mM (n w:Nat):bv 10 (rT n w)=n:=by
 unfold rT;rw [qW,(qK (b:=10) (by decide) n).1,zha,Nat.mul_zero,Zen]
theorem vB (n w:Nat):Dg 10 (rT n w):=(qK (b:=10) (by decide) n).2.1.append (Dg.rep (by decide))
theorem cJ {n w:Nat} (h:n<10 ^ w):(rT n w).length=w:=by
 have:=qV (b:=10) (by decide) h;unfold rT;rw [Zae,Zav];omega
theorem mL {n:Nat} (h:n≠0):rT n 1=dg 10 n:=by
 have e:1<=(dg 10 n).length:=by rw [qJ (by decide) h];simp
 unfold rT;rw [show 1-(dg 10 n).length=0 by omega];simp
theorem zml {x V:Nat} (hx:x<1000000000) (hV:V≠0):dg 10 (x+1000000000*V)=rT x 9++dg 10 V:=by
 have oV:=qK (b:=10) (by decide) V;have e:bv 10 (rT x 9++dg 10 V)=x+1000000000*V:=by
  rw [qW,mM,cJ (by omega),oV.1]
 rw [<- e];refine (bZ (by decide) ((vB x 9).append oV.2.1) ?_).symm;have hn:dg 10 V≠[]:=by rw [qJ (by decide) hV];simp
 have:=oV.2.2;unfold Nm at *
 rw [List.getLast?_append];cases hl:(dg 10 V).getLast? with
 | none=>exact absurd (List.getLast?_eq_none_iff.1 hl) hn
 | some y=>rw [hl] at this;exact this
theorem zmm {x V:Nat} (hx:x<1000000000) (hV:V≠0):xk (x+1000000000*V) 1=xk V 1++xk x 9:=by
 have hs:x+1000000000*V≠0:=by omega
 unfold xk;rw [mL hs,mL hV,zml hx hV];simp
def fC (z:Int):List UInt8:=(if z<0 then [45] else [])++xk z.natAbs 1
theorem dG {n k:Nat} (h:n<1000000000 ^ k):(xk n 1).length<=9*k+1:=by
 have e:1000000000 ^ k=10 ^ (9*k):=by rw [Nat.pow_mul]
 have:=qV (b:=10) (n:=9*k) (by decide) (by rw [<- e];exact h);unfold xk rT;simp;omega
theorem cA:xk 0 1=[48]:=by unfold xk rT;rw [gN];rfl
theorem ze3 {z:Int} {k:Nat} (hk:k<=90000) (hz:Z9 k z):Pure Tryz.prog B 133 [oP z] (· = .str (fC z)):=by
 have oz:=qK (b:=1000000000) (by decide) z.natAbs;have lz:=hz.len;rw [xX];refine zT λh nx K H0 hK=>zL zN yC 1000010 λhf => ?_;rw [ja.go,ja.t30,zA,ja.zu];refine H0.box (l:=[.bool (decide (z<0)),bq (dg 1000000000 z.natAbs)]) rfl λpa h1 nx1 H1 => ?_;rw [zA,zA,ja.zo,sFx,H1.load (k:=0) (i:=0+1) rfl rfl,dLen,qz,zB,ja.v5];by_cases c:z.natAbs=0
 .rw [c,gN,Zac (by rfl),zC,zA,ja.yw];simp only [zF,zO];rw [ja.ret];refine hK _ _ _ _ _ H1 (zS rfl) ?_;rw [fC,c,if_neg (by omega),cA];rfl
 have hn1:=ze2 c;obtain ⟨n,hn⟩:∃ n,(dg 1000000000 z.natAbs).length=n+1:=⟨(dg 1000000000 z.natAbs).length-1,by omega⟩;have htop:=getD_some (l:=dg 1000000000 z.natAbs) (k:=n) (by omega);have htW:=mS (k:=n) (by decide) oz.2.1;have ht1:(dg 1000000000 z.natAbs).getD n 0≠0:=by
  have:=oz.2.2;unfold Nm at this;rw [List.getLast?_eq_getElem?,hn,Nat.add_sub_cancel,htop] at this;intro q;rw [q] at this;exact this rfl
 rw [Zab (by omega),zD,zE,zA,ja.uy,sFx,H1.load (k:=0) (i:=0+1) rfl rfl,sFx,H1.load (k:=0) (i:=0+1) rfl rfl,dLen,pu (by omega),dIx (i:=n) (by omega) (by omega),dLd htop];refine vD (w:=1) (by omega) (by omega) _ _ _ _ ?_;rintro _ rfl _;rw [zA,zA,ja.fF,sFx,H1.load (k:=0) (i:=0+1) rfl rfl,dLen,pu (by omega),zI];have hdrop:∀ i,i<n+1->(dg 1000000000 z.natAbs).drop i=(dg 1000000000 z.natAbs).getD i 0::(dg 1000000000 z.natAbs).drop (i+1):=λi hi=>by
  have ea:=getD_some (l:=dg 1000000000 z.natAbs) (k:=i) (by omega);rw [Zgv (by omega)] at ea;rw [Zbb (by omega),Option.some.inj ea]
 have hlast:(dg 1000000000 z.natAbs).drop (n+1)=[]:=Zbi (by omega);refine ja.zab (λm x3 x4 h' nx'=>m<=n/\x3=.str (xk (bv 1000000000 ((dg 1000000000 z.natAbs).drop m)) 1)/\x4=I ((m:Int)-1)/\bv 1000000000 ((dg 1000000000 z.natAbs).drop m)≠0/\h'=h1/\nx'=nx1) (m:=n) (by omega) ⟨by omega,by rw [hdrop n (by omega),hlast];simp [bv],by congr 1;omega,by rw [hdrop n (by omega),hlast];simpa [bv] using ht1,rfl,rfl⟩ ?_;rintro m z3 z4 z6 h3 nx3 R ⟨hm,rfl,rfl,hV,rfl,rfl⟩ hR;rw [ja.t15,zA,zA,ja.fU,fM];cases m with
 | zero =>
  rw [Zcq,oz.1,Zab (show ¬ ((0:Int)<=((0:Nat):Int)-1) by omega),zB,ja.v6,zD,zX,yD,zA,zA,ja.sJ,sFx,H1.load (k:=0) (i:=0+0) rfl rfl,zB,ja.v7];have hl:=dG hz;by_cases d:z<0
  .rw [Zac d,zC,zA,ja.aI,tCat (by simp;omega)];simp only [zF,zO];rw [ja.ret];exact hK _ _ _ _ _ H1 (zS rfl) (by rw [fC,if_pos d])
  .rw [Zab d,zD,zE,zA,ja.aV];simp only [zF,zO];rw [ja.ret];exact hK _ _ _ _ _ H1 (zS rfl) (by rw [fC,if_neg d];rfl)
 | succ m =>
  have ea:=getD_some (l:=dg 1000000000 z.natAbs) (k:=m) (by omega);have haW:=mS (k:=m) (by decide) oz.2.1;have hl:(xk (bv 1000000000 ((dg 1000000000 z.natAbs).drop (m+1))) 1).length<=9*k+1:=by
   refine dG (Zdb ?_ hz);have e:=zqs (b:=1000000000) (l:=dg 1000000000 z.natAbs) (k:=m+1) (by omega);rw [oz.1] at e;have e2:1*bv 1000000000 ((dg 1000000000 z.natAbs).drop (m+1))<=1000000000 ^ (m+1)*bv 1000000000 ((dg 1000000000 z.natAbs).drop (m+1)):=Zbj _ (Zgj (by decide));omega
  rw [Zac (show (0:Int)<=((m+1:Nat):Int)-1 by omega),zB,ja.v6,zC,zE,zA,zI,ja.xu,sFx,H1.load (k:=0) (i:=0+1) rfl rfl,dIx (i:=m) (by omega) (by omega),dLd ea];refine vD (w:=9) (by omega) (by omega) _ _ _ _ ?_;rintro _ rfl _;have h9:(xk ((dg 1000000000 z.natAbs).getD m 0) 9).length=9:=by unfold xk;rw [Zah,Zbp,cJ (by omega)]
  have e:bv 1000000000 ((dg 1000000000 z.natAbs).drop m)=(dg 1000000000 z.natAbs).getD m 0+1000000000*bv 1000000000 ((dg 1000000000 z.natAbs).drop (m+1)):=by rw [hdrop m (by omega),bv]
  rw [tCat (by omega),ja.rP,pu (by omega)];refine hR m _ _ _ _ _ (by omega) ⟨by omega,by rw [e,zmm haW hV],by congr 1;omega,by rw [e];omega,rfl,rfl⟩
theorem tIdx {s:List UInt8} {i:Nat} {x:Int} {c:UInt8} {K:AV->OP} (hx:x=(i:Int)) (hc:s[i]? = some c):j5 (.str s) (I x) K=K (.int .u8 (c.toNat:Int)):=by
 subst hx
 show (match s[i]? with
   | some b=>pq b.toNat λn=>K (.int .u8 (.ofNat n))
   | none=>.no 16)=_
 rw [hc]
 dsimp only
 rw [yM];rfl
theorem ze4 {x:Nat} (h:x<10):(dch x).toNat=48+x:=by
 have:∀ x<10,(dch x).toNat=48+x:=by decide +kernel
 exact this x h
theorem zhb {l:List Nat} {i:Nat} (hi:i<l.length):bv 10 (l.take (i+1)).reverse=l.getD i 0+10*bv 10 (l.take i).reverse:=by
 rw [Zaq,getD_some hi];simp [bv]
theorem cB {l:List Nat} (h:Dg 10 l):bv 10 l.reverse<10 ^ l.length:=by
 have:=zdg (b:=10) (l:=l.reverse) (by decide) (λx hx=>h x (by simpa using hx))
 rwa [Zbp] at this
theorem zb2 {l:List Nat} (hd:Dg 10 l) (hl:l.length<=18):Pure Tryz.prog B 209 [.str (l.map dch)] (· = I ((bv 10 l.reverse:Nat):Int)):=by
 refine zT λh nx K H0 hK=>zL zN yC 100 λhf => ?_;rw [uh.go,uh.t18,zA,uh.zu,zA,uh.zo,zA,zA,uh.yw,zI];refine uh.zac (λm x2 x3 h' nx'=>∃ i:Nat,x2=I ((bv 10 (l.take i).reverse:Nat):Int)/\x3=I (i:Int)/\m+i=l.length/\h'=h/\nx'=nx) (m:=l.length) (by omega) ⟨0,rfl,rfl,rfl,rfl,rfl⟩ ?_;rintro m z2 z3 z4 h3 nx3 R ⟨i,rfl,rfl,hm,rfl,rfl⟩ hR;rw [uh.t10,zA,zA,uh.vk,aL,Zah,jf];by_cases c:i<l.length
 .have hx:=mS (k:=i) (by decide) hd;have ec:(l.map dch)[i]? = some (dch (l.getD i 0)):=by rw [Zgx,getD_some c];rfl
  have hb:=cB (l:=l.take i) hd.take;rw [Zai,Zbw (by omega)] at hb;have hp:10 ^ i<=10 ^ 17:=Zde (by decide) (by omega);have hs:=zhb c;rw [Zac (by omega),zB,uh.v4,zC,zE,zA,zI,uh.uy,rE (by omega),tIdx (i:=i) rfl ec,ze4 hx,zez (by omega),jo (by omega),pu (by omega),uh.fU,jo (by omega)];exact hR (m-1) _ _ _ _ _ (by omega) ⟨i+1,by congr 1;omega,rfl,by omega,rfl,rfl⟩
 .rw [Zab (by omega),zB,uh.v4,zD,zX,yD,zA,uh.rG];simp only [zF,zO];rw [uh.ret];exact hK _ _ _ _ _ H0 (zS rfl) (by rw [Zak (by omega)])
theorem zqu {l:List Nat} {neg:Bool} (hd:Dg 10 l) (hl1:1<=l.length) (hl:l.length<=900000):Pure Tryz.prog B 205 [.str ((if neg then [45] else [])++l.map dch)] (· = oP (if neg then -((bv 10 l.reverse:Nat):Int) else ((bv 10 l.reverse:Nat):Int))):=by
 refine zT λh nx K H0 hK=>zL zN yC 1000010 λhf => ?_;rw [jb.go,jb.t23,zA,jb.zu];refine H0.alloc λp h1 nx1 H1 => ?_;have main:∀ x4:AV,jb.t20.run (CS Tryz.prog B) 1000010 (fnO jb.res K) (zi jb.res K) (jb.fr (.str (l.map dch)) (.ptr p 0) (.bool neg) .u x4 .u) h1 nx1=.ok True:=by
  intro x4;rw [jb.t20,zA,jb.uy,zA,zI];refine jb.zfo (λm x0 x3 h' nx'=>∃ (i:Nat) (Z:List Nat) (o:Option Pa),x0=.str ((l.take m).map dch)/\x3=uw o 1 i/\1<=m/\m+9*i=l.length/\Z.length=i/\Dg 1000000000 Z/\bv 1000000000 Z+1000000000 ^ i*bv 10 (l.take m).reverse=bv 10 l.reverse/\Hp h h' nx' [.gro o 1 i (Z.map D),.arr p [.bool false,.zb]]) (m:=l.length) (by omega) ⟨0,[],none,by rw [Zcu],rfl,hl1,rfl,rfl,λ_ h=>by simp at h,by simp [bv],H1.ax 1⟩ ?_;rintro m z0 z3 z5 h3 nx3 R ⟨i,Z,o,rfl,rfl,hm1,hm,hZ,hdZ,hs,H3⟩ hR;have hlm:(l.take m).length=m:=by rw [Zai];omega
  rw [jb.t14,zA,zA,jb.fF,aL,Zah,hlm,pz];by_cases c:9<m
  .have hlt:(l.take m).take (m-9)=l.take (m-9):=by rw [List.take_take,Zbw (by omega)]
   have hpl:((l.take m).drop (m-9)).length=9:=by rw [Zcp];omega
   have hpd:Dg 10 ((l.take m).drop (m-9)):=λx hx=>hd x (Zbx (List.mem_of_mem_drop hx));have hpb:=cB hpd;rw [hpl] at hpb;have hsp:bv 10 (l.take m).reverse=bv 10 ((l.take m).drop (m-9)).reverse+1000000000*bv 10 (l.take (m-9)).reverse:=by
    have e:l.take m=l.take (m-9)++(l.take m).drop (m-9):=by rw [<- hlt,Zfx]
    conv=>lhs;rw [e]
    rw [List.reverse_append,qW,Zbp,hpl]
   rw [Zac (by omega),zB,jb.v5,zC,zE,zI,zA,jb.ny,aL,Zah,hlm,pu (by omega),zb1 (a:=m-9) (by omega) (by rw [Zah,hlm];omega),<- List.map_drop];refine zb2 hpd (by omega) _ _ _ _ ?_;rintro _ rfl _;refine H3.oH (v:=D (bv 10 ((l.take m).drop (m-9)).reverse)) (by omega) (by decide) rfl rfl λo' h4 n4 H4 => ?_;rw [jb.xu,aL,Zah,hlm,pu (by omega),tTo (b:=m-9) (by omega) (by rw [Zah,hlm];omega),<- Zfv,hlt];refine hR (m-9) _ _ _ _ _ (by omega) ⟨i+1,Z++[bv 10 ((l.take m).drop (m-9)).reverse],o',rfl,rfl,by omega,by omega,by simp [hZ],hdZ.append (Dg.one hpb),?_,by rw [Zbh];exact H4⟩;rw [c8,hZ,Zdi,Zcv,Zef,<- Zek,<- hsp];exact hs
  .have hpd:Dg 10 (l.take m):=hd.take;have hpb:=cB hpd;rw [hlm] at hpb;have hp:10 ^ m<=10 ^ 9:=Zde (by decide) (by omega);rw [Zab (by omega),zB,jb.v5,zD,zX,yD,zA,jb.tL];refine zb2 hpd (by omega) _ _ _ _ ?_;rintro _ rfl _;refine H3.oH (v:=D (bv 10 (l.take m).reverse)) (by omega) (by decide) rfl rfl λo' h4 n4 H4 => ?_;rw [show Z.map D++[D (bv 10 (l.take m).reverse)]=(Z++[bv 10 (l.take m).reverse]).map D by rw [Zbh];rfl] at H4;obtain ⟨h5,hkp,H5,hF⟩:=H4.zkp (by simp [hZ]);refine dQ hkp (.cons (.bool _) (.cons hF .nil)) ?_;refine xF (hdZ.append (Dg.one (by omega))) (by simp;omega) _ _ _ _ ?_;rintro _ rfl _;rw [c8,hZ,hs]
   generalize (if neg=true then -((bv 10 l.reverse:Nat):Int) else ((bv 10 l.reverse:Nat):Int))=z at *
   refine H5.jh (l2:=[.bool (decide (z<0)),bq (dg 1000000000 z.natAbs)]) (k:=0) rfl rfl rfl λh6 H6 => ?_;simp only [zF,zO];rw [jb.ret,H6.zm (k:=0) (n:=2) rfl rfl];exact hK _ _ _ _ _ H6 dAgg rfl
 cases neg with
 | true =>
  rw [if_pos rfl,zA,jb.zo,aL,pz,Zac (by simp)];simp only [yL];rw [tIdx (s:=[45]++l.map dch) (i:=0) (x:=0) (c:=45) rfl rfl,qz];simp only [zY];rw [show decide (((45:UInt8).toNat:Int)=45)=true from rfl,zA,zA,jb.yw,zB,jb.v4,zC,jb.vk,zb1 (s:=[45]++l.map dch) (a:=1) (x:=1) rfl (by simp)];exact main _
 | false =>
  have ec:(l.map dch)[0]? = some (dch (l.getD 0 0)):=by rw [Zgx,getD_some (by omega)];rfl
  have hx:=mS (k:=0) (by decide) hd;rw [if_neg (by decide),Zbk,zA,jb.zo,aL,Zah,pz,Zac (by omega)];simp only [yL];rw [tIdx (i:=0) (x:=0) rfl ec,qz,ze4 hx];simp only [zY];rw [Zab (by omega),zA,zA,jb.yw,zB,jb.v4,zD,zE];exact main _
theorem zb3 {s:List UInt8} {j:Nat} (hl:s.length<=1000000) (hj:j<=s.length) (hb:∀ i c,i<j->s[i]? = some c->c≠47) (he:j=s.length\/s[j]? = some 47):Pure Tryz.prog B 206 [.str s] (· = I (j:Int)):=by
 refine zT λh nx K H0 hK=>zL zN yC 1000010 λhf => ?_;rw [jq.go,jq.t20,zA,jq.zu,zA,zA,jq.zo,zI];refine jq.zfp (λm x2 h' nx'=>∃ i:Nat,x2=I (i:Int)/\m+i=j/\h'=h/\nx'=nx) (m:=j) (by omega) ⟨0,rfl,rfl,rfl,rfl⟩ ?_;rintro m z1 z2 z3 z4 h3 nx3 R ⟨i,rfl,hm,rfl,rfl⟩ hR;rw [jq.t13,zA,zA,jq.yw,aL,jf];by_cases c:i<s.length
 .have ec:=Zgv c;rw [Zac (by omega),zB,jq.v3,zC,zE,zA,zI,zA,jq.fZ,tIdx (i:=i) rfl ec,qz,zB,jq.v4];by_cases d:i<j
  .have hn:=hb i _ d ec
   have hn2:¬ ((s[i].toNat:Int)=47):=λq=>hn (by
    have:s[i].toNat=(47:UInt8).toNat:=by
     have e:(47:UInt8).toNat=47:=rfl;omega
    exact UInt8.toNat_inj.1 this)
   rw [Zab hn2,zD,zE,jq.xu,jo (by omega)];exact hR (m-1) _ _ _ _ _ _ (by omega) ⟨i+1,rfl,by omega,rfl,rfl⟩
  .obtain rfl:i=j:=by omega
   have e47:s[i]=47:=by
    rcases he with e | e
    .omega
    .rw [ec] at e;exact Option.some.inj e
   rw [e47,show decide (((47:UInt8).toNat:Int)=47)=true from rfl,zC,zA,jq.uy];simp only [zF,vI,zO];rw [jq.ret];exact hK _ _ _ _ _ H0 (zS rfl) rfl
 .obtain rfl:i=j:=by omega
  rw [Zab (by omega),zB,jq.v3,zD,zX,yD,zA,jq.tL,aL];simp only [zF,zO];rw [jq.ret];exact hK _ _ _ _ _ H0 (zS rfl) (by congr 1;omega)
def ql (q:Rat):List UInt8:=fC q.num++(if q.den=1 then [] else 47::fC (q.den:Int))
theorem zyp {x:Nat} (h:x<10):dch x≠47:=by
 have:∀ x<10,dch x≠47:=by decide +kernel
 exact this x h
theorem d9 {z:Int} {c:UInt8} (h:c∈fC z):c≠47:=by
 unfold fC xk at h;rcases Zbf.1 h with q | q
 .split at q
  .rw [Zaz.1 q];decide
  .cases q
 .obtain ⟨x,hx,rfl⟩:=Zar.1 q;exact zyp (vB _ _ x (by simpa using hx))
theorem xL {z:Int} {k:Nat} (h:Z9 k z):(fC z).length<=9*k+2:=by
 have:=dG h;unfold fC;rw [Zae];split <;> simp <;> omega
theorem zhc (n:Nat):1<=(rT n 1).length:=by unfold rT;rw [Zae,Zav];omega
theorem zjf {z:Int} {k:Nat} (hk:k<=90000) (hz:Z9 k z):Pure Tryz.prog B 205 [.str (fC z)] (· = oP z):=by
 have hl:=dG hz;unfold xk at hl;rw [Zah,Zbp] at hl;have hp:=zqu (B:=B) (l:=(rT z.natAbs 1).reverse) (neg:=decide (z<0)) (λx hx=>vB _ _ x (by simpa using hx)) (by rw [Zbp];exact zhc _) (by rw [Zbp];omega);rw [Zeu,mM] at hp;have e1:(if decide (z<0)=true then [45] else [])++(rT z.natAbs 1).reverse.map dch=fC z:=by
  unfold fC xk;by_cases d:z<0
  .rw [if_pos d,if_pos (Zac d)]
  .rw [if_neg d,if_neg (by rw [Zab d];decide)]
 have e2:(if decide (z<0)=true then -((z.natAbs:Nat):Int) else ((z.natAbs:Nat):Int))=z:=by
  by_cases d:z<0
  .rw [if_pos (Zac d)];omega
  .rw [if_neg (by rw [Zab d];decide)];omega
 rw [e1,e2] at hp;exact hp
theorem zqv {q:Rat} {k:Nat} (hk:k<=40000) (hn:Z9 k q.num) (hd:Z9 k (q.den:Int)):Pure Tryz.prog B 129 [.str (ql q)] (· = .tup [oP q.num,oP (q.den:Int)]):=by
 refine zT λh nx K H0 hK=>zL zN yC 100 λhf => ?_;have l1:=xL hn;have l2:=xL hd;rw [qi.go,qi.t13,zA,qi.zu];refine H0.alloc λp1 h1 nx1 H1 => ?_;refine H1.alloc λp2 h2 nx2 H2 => ?_;rw [zA,qi.zo,zA,qi.yw];by_cases c:q.den=1
 .have e:ql q=fC q.num:=by unfold ql;rw [if_pos c,Zba]
  rw [e];refine zb3 (j:=(fC q.num).length) (by omega) (by omega) (λi c _ hc=>d9 (Zad hc)) (.inl rfl) _ _ _ _ ?_;rintro _ rfl _;rw [zA,zA,qi.vk,aL,qz,Zac rfl,zB,qi.v5,zC,zA,qi.ng];refine zjf (by omega) hn _ _ _ _ ?_;rintro _ rfl _;refine zg8 (by omega) _ _ _ _ ?_;rintro _ rfl _;refine H2.jh (l2:=[.bool (decide (q.num<0)),bq (dg 1000000000 q.num.natAbs)]) (k:=1) rfl rfl rfl λh3 H3 => ?_;refine H3.jh (l2:=[.bool (decide ((1:Int)<0)),bq (dg 1000000000 (1:Int).natAbs)]) (k:=0) rfl rfl rfl λh4 H4 => ?_;simp only [zF,zO];rw [qi.ret,H4.zm (k:=1) (n:=2) rfl rfl,H4.zm (k:=0) (n:=2) rfl rfl];exact hK _ _ _ _ _ H4 (j4 dAgg dAgg) (by rw [c];rfl)
 .have e:ql q=fC q.num++47::fC (q.den:Int):=by unfold ql;rw [if_neg c]
  have el:(ql q).length=(fC q.num).length+((fC (q.den:Int)).length+1):=by rw [e,Zae,Zbd]
  have et:(ql q).take (fC q.num).length=fC q.num:=by rw [e,List.take_left'];rfl
  have ed:(ql q).drop ((fC q.num).length+1)=fC (q.den:Int):=by rw [e,<- Zgh,List.drop_left'];rfl;rfl
  refine zb3 (j:=(fC q.num).length) (by omega) (by omega) (λi c hi hc => ?_) (.inr ?_) _ _ _ _ ?_
  .rw [e,Zhb hi] at hc;exact d9 (Zad hc)
  .rw [e,Zgy (Zaf _),Zcw];rfl
  rintro _ rfl _;rw [zA,zA,qi.vk,aL,qz,Zab (by omega),zB,qi.v5,zD,zE,zA,qi.fU,tTo (b:=(fC q.num).length) rfl (by omega),et,jo (by omega),zb1 (a:=(fC q.num).length+1) (by omega) (by omega),ed];refine zjf (by omega) hn _ _ _ _ ?_;rintro _ rfl _;rw [zb1 (a:=(fC q.num).length+1) (by omega) (by omega),ed,zH,jo (by omega)];simp only [zH];refine zjf (by omega) hd _ _ _ _ ?_;rintro _ rfl _;refine H2.jh (l2:=[.bool (decide (q.num<0)),bq (dg 1000000000 q.num.natAbs)]) (k:=1) rfl rfl rfl λh3 H3 => ?_;refine H3.jh (l2:=[.bool (decide ((q.den:Int)<0)),bq (dg 1000000000 (q.den:Int).natAbs)]) (k:=0) rfl rfl rfl λh4 H4 => ?_;simp only [zF,zO];rw [qi.ret,H4.zm (k:=1) (n:=2) rfl rfl,H4.zm (k:=0) (n:=2) rfl rfl];exact hK _ _ _ _ _ H4 (j4 dAgg dAgg) rfl
def sj (q:Rat):List UInt8:=xk q.num.natAbs 1++(if q.den=1 then [] else 47::xk q.den 1)
theorem dZ (q:Rat):ql q=(if q.num<0 then [45] else [])++sj q:=by
 unfold ql sj fC;rw [Zcg,if_neg (show ¬ ((q.den:Int)<0) by omega),Zbk,Zbo]
theorem m5 (n:Nat):1<=(xk n 1).length:=by unfold xk;rw [Zah,Zbp];exact zhc n
theorem pG {n:Nat} {c:UInt8} (h:c∈xk n 1):c≠47/\c≠45:=by
 unfold xk at h;obtain ⟨x,hx,rfl⟩:=Zar.1 h;have hx10:=vB n 1 x (by simpa using hx);have:∀ x<10,dch x≠47/\dch x≠45:=by decide +kernel
 exact this x hx10
theorem zqw {n:Nat} (hl:(xk n 1).length<=18):Pure Tryz.prog B 209 [.str (xk n 1)] (· = I (n:Int)):=by
 have hl2:=hl;unfold xk at hl2;rw [Zah] at hl2;have:=zb2 (B:=B) (l:=(rT n 1).reverse) (λx hx=>vB _ _ x (by simpa using hx)) hl2;rw [Zeu,mM] at this;exact this
theorem ztr {n k:Nat} (hl:(xk n 1).length<=k):n<10 ^ k:=by
 have e:(rT n 1).length<=k:=by unfold xk at hl;simpa using hl
 have:=zdg (b:=10) (by decide) (vB n 1);rw [mM] at this;exact Zck this (Zde (by decide) e)
theorem mJ {q:Rat} (hq1:q.num.natAbs<1000000000) (hq2:q.den<1000000000):Pure Tryz.prog B 127 [.str (ql q)] (· = .tup [I q.num,I (q.den:Int),.bool true]):=by
 refine zT λh nx K H0 hK=>zL zN yC 100 λhf => ?_;have w9:∀ {n:Nat},n<1000000000->(xk n 1).length<=9:=λ{n} h=>by
  have:=qV (b:=10) (z:=n) (n:=9) (by decide) h;unfold xk rT;rw [Zah,Zbp,Zae,Zav];omega
 have h9n:=w9 hq1;have h9d:=w9 hq2;have hcut:ql q=(if q.num<0 then [45] else [])++sj q:=dZ q;have hd1:=m5 q.num.natAbs;have hbl:(sj q).length=(xk q.num.natAbs 1).length+(if q.den=1 then [] else 47::xk q.den 1).length:=by rw [sj,Zae]
 have hb19:(sj q).length<=(xk q.num.natAbs 1).length+10:=by rw [hbl];split <;> simp;omega
 have hr20:(ql q).length<=20:=by rw [hcut,Zae];split <;> simp <;> omega
 rw [zw.go,zw.t38,zA,zw.zu,zA,zw.zo,zA,zA,zw.yw,aL,pz,zB,zw.v9];rw [Zab (by omega),zD,zE];have main:∀ x10:AV,zw.t33.run (CS Tryz.prog B) 100 (fnO zw.res K) (zi zw.res K) (zw.fr (.str (ql q)) (I 0) (I 0) (.bool false) (.str (sj q)) (.bool (decide (q.num<0))) .u .u .u (.bool false) x10 .u .u .u) h nx=.ok True:=by
  intro x10;have qb1:∀ i c,i<(xk q.num.natAbs 1).length->(sj q)[i]? = some c->c≠47:=λi c hi hc=>by
   rw [sj,Zhb hi] at hc;exact (pG (Zad hc)).1
  have hat:(xk q.num.natAbs 1).length=(sj q).length\/(sj q)[(xk q.num.natAbs 1).length]? = some 47:=by
   by_cases c:q.den=1
   .rw [if_pos c] at hbl;exact .inl (by simpa using hbl.symm)
   .right
    rw [sj,if_neg c,Zgy (Zaf _),Zcw];rfl
  have ht:(sj q).take (xk q.num.natAbs 1).length=xk q.num.natAbs 1:=by rw [sj,List.take_left'];rfl
  rw [zw.t33,zA,zw.rH];refine zb3 (j:=(xk q.num.natAbs 1).length) (by omega) (by omega) qb1 hat _ _ _ _ ?_;rintro _ rfl _;rw [zA,zA,zw.rP,zw.r8_0,zw.zh5,pz];rw [Zab (by omega)];simp only [jG];rw [aL,pu (by omega),pz,zw.r8_1,zw.zh6];simp only [yB];rw [zB,zw.v11];rw [Zab (by omega),zD,zE,zA,zw.zad,tTo (b:=(xk q.num.natAbs 1).length) rfl (by omega),ht];refine zqw (by omega) _ _ _ _ ?_;rintro _ rfl _;have fin:∀ x12:AV,zw.t29.run (CS Tryz.prog B) 100 (fnO zw.res K) (zi zw.res K) (zw.fr (.str (ql q)) (I 0) (I 0) (.bool false) (.str (sj q)) (.bool (decide (q.num<0))) (I ((xk q.num.natAbs 1).length:Int)) (I (q.num.natAbs:Int)) (I (q.den:Int)) (.bool false) x10 (.bool false) x12 .u) h nx=.ok True:=by
   intro x12;rw [zw.t29,zA,zA,zw.zm7,zB,zw.v13];by_cases d:q.num<0
   .rw [Zac d,zC,zw.aV,pu (by omega),zA,zw.zjy];simp only [zF,zO];rw [zw.ret];exact hK _ _ _ _ _ H0 (zgr (.int _ _) (.int _ _) (.bool _)) (by rw [show (0:Int)-(q.num.natAbs:Int)=q.num by omega])
   .rw [Zab d,zD,zE,zA,zw.zjy];simp only [zF,zO];rw [zw.ret];exact hK _ _ _ _ _ H0 (zgr (.int _ _) (.int _ _) (.bool _)) (by rw [show ((q.num.natAbs:Nat):Int)=q.num by omega])
  rw [zA,zA,zw.sJ,aL,jf,zB,zw.v12];by_cases c:q.den=1
  .rw [if_pos c,Zfb,Zen] at hbl;rw [Zab (by omega),zD,zE];have:=fin (.bool false);rw [c] at this;exact this
  .rw [if_neg c,Zbd] at hbl;have ed:(sj q).drop ((xk q.num.natAbs 1).length+1)=xk q.den 1:=by rw [sj,if_neg c,<- Zgh,List.drop_left'];rfl;rfl
   rw [Zac (by omega),zC,zw.aI,jo (by omega),zb1 (a:=(xk q.num.natAbs 1).length+1) (by omega) (by omega),ed];refine zqw (by omega) _ _ _ _ ?_;rintro _ rfl _;exact fin _
 by_cases d:q.num<0
 .rw [if_pos d] at hcut;have e0:(ql q)[0]? = some 45:=by rw [hcut];rfl
  have el:(ql q).length=(sj q).length+1:=by rw [hcut];rfl
  have ed:(ql q).drop 1=sj q:=by rw [hcut];rfl
  rw [zA,zw.fF,aL,pz,Zac (by omega)];simp only [yL];rw [tIdx (i:=0) (x:=0) rfl e0,qz];simp only [zY];rw [show decide (((45:UInt8).toNat:Int)=45)=true from rfl,zA,zA,zw.fU,zB,zw.v10,zC,zw.nu,zb1 (a:=1) (x:=1) rfl (by omega),ed];have:=main (.bool true);rw [Zac d] at this;exact this
 .rw [if_neg d,Zbk] at hcut;obtain ⟨c0',hc0⟩:∃ c,(xk q.num.natAbs 1)[0]? = some c:=⟨_,Zgv (by omega)⟩;have e0:(ql q)[0]? = some c0':=by rw [hcut,sj,Zhb (by omega),hc0]
  have hne:=(pG (Zad hc0)).2
  have hne2:¬ ((c0'.toNat:Int)=45):=λh=>hne (by
   have e:(45:UInt8).toNat=45:=rfl;have:c0'.toNat=(45:UInt8).toNat:=by omega
   exact UInt8.toNat_inj.1 this)
  rw [zA,zw.fF,aL,pz,Zac (by rw [hcut];omega)];simp only [yL];rw [tIdx (i:=0) (x:=0) rfl e0,qz];simp only [zY];rw [Zab hne2,zA,zA,zw.fU,zB,zw.v10,zD,zE];have:=main (.bool false);rw [Zab d] at this;rw [<- hcut] at this;exact this
def rF (z:Int):Prop := -9223372036854775807<=z/\z<=9223372036854775807
def fe (s w:AV) (z:Int):Prop:=s=I z/\w=.zb/\rF z
def wz (v:AV) (z:Int):Prop:=∃ s w,v=.agg [s,w]/\fe s w z
theorem u7 {N:Pa->Prop} {O:AV->Prop} {hh:T Blk} {l:List AV} (h:∀ v∈l,rJ v=true):Frz True N O hh (.agg l) (.agg l) :=
 .agg _ _ rfl (Zaw.2 λv hv=>rJ.qb (h v hv)) λi v v' h1 h2=>by rw [h1] at h2;cases h2;exact zS (h v (Zad h1))
theorem fe.fix {s w:AV} {z:Int} (h:fe s w z):∀ v∈[s,w],rJ v=true:=by
 intro v hv;simp only [Zas,List.not_mem_nil,or_false] at hv;obtain ⟨rfl,rfl,_⟩:=h;rcases hv with rfl | rfl <;> rfl
theorem wz.frz {v:AV} {z:Int} (h:wz v z) {N:Pa->Prop} {O:AV->Prop} {hh:T Blk}:Frz True N O hh v v:=by
 obtain ⟨s,w,rfl,h⟩:=h;exact u7 h.fix
theorem yT {z:Int} (h:rF z):wz (.agg [I z,.zb]) z:=⟨_,_,rfl,rfl,rfl,h⟩
theorem kI {K:AV->OP}:za .eql (.nil .sl) .zb .zb K=K (.bool true):=nr rfl
theorem zqx {K:AV->OP}:za .neq (.nil .sl) .zb .zb K=K (.bool false):=nr rfl
theorem zyq {a b:Bool} {K:AV->OP}:za .eql .bool (.bool a) (.bool b) K=K (.bool (a==b)):=by cases a <;> cases b <;> exact nr rfl
theorem zyr {a b:Bool} {K:AV->OP}:za .neq .bool (.bool a) (.bool b) K=K (.bool (a != b)):=by cases a <;> cases b <;> exact nr rfl
theorem uQ {z:Int} {K:AV->OP}:uX [(I 0),.zb] [(0,1,I z)] K=K (.agg [I z,.zb]):=nr rfl
theorem zqy {z:Int} (h:rF z):Pure Tryz.prog B 187 [I z] (λv=>wz v z):=by
 refine zT λhh nx K H0 hK=>zL zN yC 100 λhf => ?_;rw [nP.go,nP.t3,zA,nP.zu];refine H0.alloc λp h1 nx1 H1 => ?_;rw [zA,nP.zo,uQ];refine H1.jh (l2:=[I z,.zb]) (k:=0) rfl rfl rfl λh4 H4 => ?_;simp only [zF,zO];rw [nP.ret,H4.zm (k:=0) (n:=2) rfl rfl];exact hK _ _ _ _ _ H4 (yT h).frz (yT h)
def uG (z:Int):Int:=if z<0 then -1 else if 0<z then 1 else 0
theorem zts {z:Int} {K:AV->OP}:sMin false (I 1) [I z] K=K (I (if z<1 then z else 1)):=by
 have e:sMin false (I 1) [I z] K=K (I (bif ilt z 1 then z else 1)):=nr rfl;rw [e,wY];by_cases c:z<1
 .rw [if_pos c,Zac c];rfl
 .rw [if_neg c,Zab c];rfl
theorem ztt {z:Int} {K:AV->OP}:sMin true (I (-1)) [I z] K=K (I (if -1<z then z else -1)):=by
 have e:sMin true (I (-1)) [I z] K=K (I (bif ilt (-1) z then z else -1)):=nr rfl;rw [e,wY];by_cases c : -1<z
 .rw [if_pos c,Zac c];rfl
 .rw [if_neg c,Zab c];rfl
theorem dT {v:AV} {z:Int} (hv:wz v z):Pure Tryz.prog B 194 [v] (· = I (uG z)):=by
 obtain ⟨s,w,rfl,rfl,rfl,hv⟩:=hv;refine zT λh nx K H0 hK=>zL zN yC 100 λhf => ?_;rw [nQ.go,nQ.t3,zA,nQ.zu];refine H0.box (l:=[I z,.zb]) rfl λpa h1 nx1 H1 => ?_;have hn:(if -1<(if z<1 then z else 1) then (if z<1 then z else 1) else -1)=uG z:=by
  unfold uG
  (repeat' split) <;> omega
 rw [zA,nQ.zo,sFx,H1.load (k:=0) (i:=0+0) rfl rfl,zts,ztt,hn];simp only [zF,zO];rw [nQ.ret];exact hK _ _ _ _ _ H1 (zS rfl) rfl
theorem xI {v:AV} {z:Int} (hv:wz v z):Pure Tryz.prog B 193 [v] (λv=>wz v (-z)):=by
 obtain ⟨s,w,rfl,rfl,rfl,hv⟩:=hv;unfold rF at hv;refine zT λh nx K H0 hK=>zL zN yC 100 λhf => ?_;rw [fG.go,fG.t11,zA,fG.zu];refine H0.box (l:=[I z,.zb]) rfl λpa h1 nx1 H1 => ?_;refine H1.alloc λp h2 nx2 H2 => ?_;rw [zA,zA,fG.zo,sFx,H2.load (k:=1) (i:=0+1) (v:=.zb) rfl rfl,kI];simp only [yL];rw [sFx,H2.load (k:=1) (i:=0+0) rfl rfl,fB,zY,zB,fG.v5,Zab (by omega),Zam,zC,zA,fG.yw,sFx,H2.load (k:=1) (i:=0+0) rfl rfl,uNeg (by omega),uQ];refine H2.jh (l2:=[I (-z),.zb]) (k:=0) rfl rfl rfl λh4 H4 => ?_;simp only [zF,zO];rw [fG.ret,H4.zm (k:=0) (n:=2) rfl rfl];exact hK _ _ _ _ _ H4 (yT (by unfold rF;omega)).frz (yT (by unfold rF;omega))
theorem zjg {a b:Int} {K:AV->OP}:za .add .int (I a) (I b) K=K (I (IntKind.wrap .i64 (a+b))):=zvu
theorem zhd {a b:Int} (ha : -9223372036854775808<=a/\a<=9223372036854775807) (hb : -9223372036854775808<=b/\b<=9223372036854775807) :
  (decide (a<IntKind.wrap .i64 (a+b))==decide (0<b))=true↔(-9223372036854775808<=a+b/\a+b<=9223372036854775807):=by
 have e:∀ z:Int,IntKind.wrap .i64 z=(z+9223372036854775808)%18446744073709551616-9223372036854775808:=by
  intro z;rw [IntKind.wrap_i64] <;> omega
 rw [e];by_cases c:0<b
 .rw [Zac c];by_cases d:a+b<=9223372036854775807
  .rw [Zac (by omega)];simp;omega
  .rw [Zab (by omega)];simp;omega
 .rw [Zab c];by_cases d : -9223372036854775808<=a+b
  .rw [Zab (by omega)];simp;omega
  .rw [Zac (by omega)];simp;omega
theorem zkq {va vb:AV} {a b:Int} (hva:wz va a) (hvb:wz vb b) (hs:rF (a+b)):Pure Tryz.prog B 197 [va,vb] (λv=>wz v (a+b)):=by
 obtain ⟨s,w,rfl,rfl,rfl,hva⟩:=hva;obtain ⟨s',w',rfl,rfl,rfl,hvb⟩:=hvb;unfold rF at hva hvb;have hs':=hs;unfold rF at hs';refine zT λh nx K H0 hK=>zL zN yC 100 λhf => ?_;rw [wu.go,wu.t30,zA,wu.zu];refine H0.box (l:=[I a,.zb]) rfl λpa h1 nx1 H1 => ?_;refine H1.box (l:=[I b,.zb]) rfl λpb h2 nx2 H2 => ?_;refine H2.alloc λp h3 nx3 H3 => ?_;rw [zA,zA,wu.zo,sFx,H3.load (k:=2) (i:=0+1) (v:=.zb) rfl rfl,kI];simp only [yL];rw [sFx,H3.load (k:=1) (i:=0+1) (v:=.zb) rfl rfl,kI,zY,zB,wu.v10,zC,zA,wu.yw,sFx,H3.load (k:=2) (i:=0+0) rfl rfl,sFx,H3.load (k:=1) (i:=0+0) rfl rfl,zjg,zA,wu.vk,sFx,H3.load (k:=2) (i:=0+0) rfl rfl,pz,sFx,H3.load (k:=1) (i:=0+0) rfl rfl,pz,zyq,zB,wu.v11];have hw : -9223372036854775808<=a+b/\a+b<=9223372036854775807:=by omega
 rw [(zhd (a:=a) (b:=b) (by omega) (by omega)).2 hw,zC,zA,wu.ng,qS hw,uQ];simp only [zF,zO];refine H3.jh (l2:=[I (a+b),.zb]) (k:=0) rfl rfl rfl λh4 H4 => ?_;rw [wu.ret,H4.zm (k:=0) (n:=2) rfl rfl];exact hK _ _ _ _ _ H4 (yT hs).frz (yT hs)
theorem vX {va vb:AV} {a b:Int} (hva:wz va a) (hvb:wz vb b) (hs:rF (a*b)):Pure Tryz.prog B 198 [va,vb] (λv=>wz v (a*b)):=by
 obtain ⟨s,w,rfl,rfl,rfl,hva⟩:=hva;obtain ⟨s',w',rfl,rfl,rfl,hvb⟩:=hvb;unfold rF at hva hvb;have hs':=hs;unfold rF at hs';have hab:a.natAbs*b.natAbs<=9223372036854775807:=by rw [<- Zcc];omega
 refine zT λh nx K H0 hK=>zL zN yC 100 λhf => ?_;rw [um.go,um.t24,zA,um.zu];refine H0.box (l:=[I a,.zb]) rfl λpa h1 nx1 H1 => ?_;refine H1.box (l:=[I b,.zb]) rfl λpb h2 nx2 H2 => ?_;refine H2.alloc λp h3 nx3 H3 => ?_;have hsgn:(if (decide (a<0) != decide (b<0))=true then -((a.natAbs*b.natAbs:Nat):Int) else ((a.natAbs*b.natAbs:Nat):Int))=a*b:=by
  rw [<- Zcc];by_cases c1:a<0 <;> by_cases c2:b<0
  .rw [Zac c1,Zac c2,if_neg (by decide)];have:=Zdv (show a<=0 by omega) (show b<=0 by omega);omega
  .rw [Zac c1,Zab c2,if_pos (by decide)];have:=Int.mul_nonpos_of_nonpos_of_nonneg (show a<=0 by omega) (show 0<=b by omega);omega
  .rw [Zab c1,Zac c2,if_pos (by decide)];have:=Int.mul_nonpos_of_nonneg_of_nonpos (show 0<=a by omega) (show b<=0 by omega);omega
  .rw [Zab c1,Zab c2,if_neg (by decide)];have:=Zgi (show 0<=a by omega) (show 0<=b by omega);omega
 have ret:∀ {h4 nx4 z} {x0 x1 x2 x3 x5 x6 x7 x8 x9 x10 x11 x12 x13:AV},Hp h h4 nx4 [.arr p [I 0,.zb],.arr pb [I b,.zb],.arr pa [I a,.zb]]->z=a*b->(zV 2 (.ptr p 0) (.agg [I z,.zb]) h4 nx4 λv2 h3 n4=>zi um.res K (um.fr x0 x1 x2 x3 (.ptr p 0) x5 x6 x7 x8 x9 x10 x11 x12 x13) h3 n4)=.ok True:=λH e=>by
  subst e;refine H.jh (l2:=[I (a*b),.zb]) (k:=0) rfl rfl rfl λh4 H4 => ?_;rw [um.ret,H4.zm (k:=0) (n:=2) rfl rfl];exact hK _ _ _ _ _ H4 (yT hs).frz (yT hs)
 rw [zA,zA,um.zo,sFx,H3.load (k:=2) (i:=0+1) (v:=.zb) rfl rfl,kI];simp only [yL];rw [sFx,H3.load (k:=1) (i:=0+1) (v:=.zb) rfl rfl,kI,zY,zB,um.v11,zC,zA,um.yw,sFx,H3.load (k:=2) (i:=0+0) rfl rfl,sFx,H3.load (k:=1) (i:=0+0) rfl rfl];refine ze0 (by omega) _ _ _ _ ?_;rintro _ rfl _;rw [H3.load (k:=1) (i:=0+0) rfl rfl,zH,sFx,zH];refine ze0 (by omega) _ _ _ _ ?_;rintro _ rfl _;refine zyl (by omega) (by omega) _ _ _ _ ?_;rintro _ rfl _;rw [jB,jE,zA,um.vk,qby,Zac (Zet (by omega))];simp only [yL];rw [Zce (by omega),show (AV.int .u64 9223372036854775807)=U 9223372036854775807 from rfl,uLeq,zY,zB,um.v12];rw [Zac hab,zC,zA,zA,um.ng,sFx,H3.load (k:=2) (i:=0+0) rfl rfl,jf,sFx,H3.load (k:=1) (i:=0+0) rfl rfl,jf,zyr,zB,um.v13];by_cases c:(decide (a<0) != decide (b<0))=true
 .rw [if_pos c] at hsgn;rw [c,zC,zA,um.fZ,zez (by omega),uNeg (by omega),uQ];simp only [zF,zO];exact ret H3 hsgn
 .rw [if_neg c] at hsgn;rw [show (decide (a<0) != decide (b<0))=false by simpa using c,zD,zE,zA,um.nu,zez (by omega),uQ];simp only [zF,zO];exact ret H3 hsgn
theorem ztu {a b:Int} {K:AV->OP} (ha : -9223372036854775808<=a/\a<=9223372036854775807) (hb:1<=b):za .quo .int (I a) (I b) K=K (I (a.tdiv b)):=by
 have e:za .quo .int (I a) (I b) K=(bif ieq b 0 then Out.no 5 else qx (IntKind.i64.wrap (a.tdiv b)) λz=>K (.int .i64 z)):=rfl;have h0:ieq b 0=false:=by rw [wZ];exact Zab (by omega)
 rw [e,h0,cond_false,jL,Go.IntWalk.i64_quo' a b ⟨ha.1,ha.2,hb⟩]
theorem ztv {a b:Int} {K:AV->OP} (hb:1<=b):za .rem .int (I a) (I b) K=K (I (a.tmod b)):=by
 have e:za .rem .int (I a) (I b) K=(bif ieq b 0 then Out.no 5 else qx (a.tmod b) λz=>K (.int .i64 z)):=rfl;have h0:ieq b 0=false:=by rw [wZ];exact Zab (by omega)
 rw [e,h0,cond_false,jL]
theorem zb4 {a b q r:Int} (hb:0<b) (h:a=q*b+r) (h0:0<=r) (h1:r<b):a / b=q/\a%b=r:=by
 subst h;refine ⟨?_,?_⟩
 .rw [Int.add_comm,Int.add_mul_ediv_right _ _ (by omega),Int.ediv_eq_zero_of_lt h0 h1,Int.zero_add]
 .rw [Int.add_comm,Int.add_mul_emod_self_right,Int.emod_eq_of_lt h0 h1]
theorem ze5 {a b:Int} (hb:1<=b):(a.tmod b<0->a / b=a.tdiv b-1/\a%b=a.tmod b+b /\ -b<a.tmod b)/\(0<=a.tmod b->a / b=a.tdiv b/\a%b=a.tmod b):=by
 have e:=Int.mul_tdiv_add_tmod a b;have h1:=Zgn a (show 0<b by omega);have h2 : -b<a.tmod b:=by
  have:=Zgn (-a) (show 0<b by omega);rw [Int.neg_tmod] at this;omega
 rw [Int.mul_comm] at e;refine ⟨λh => ?_,λh=>zb4 (by omega) e.symm h h1⟩;obtain ⟨c1,c2⟩:=zb4 (a:=a) (b:=b) (q:=a.tdiv b-1) (r:=a.tmod b+b) (by omega) (by rw [Int.sub_mul];omega) (by omega) (by omega);exact ⟨c1,c2,h2⟩
theorem zmn {a b:Int} (ha : -9223372036854775807<=a) (hb:1<=b) : -9223372036854775807<=a / b:=by
 refine (Int.le_ediv_iff_mul_le (by omega)).2 ?_;have:=Zdn hb (show (0:Int)<=9223372036854775807 by omega);omega
theorem cQ {va vb:AV} {a b:Int} (hva:wz va a) (hvb:wz vb b) (hb:1<=b):Pure Tryz.prog B 201 [va,vb] (λv=>∃ v1 v2,v=.tup [v1,v2]/\wz v1 (a / b)/\wz v2 (a%b)):=by
 obtain ⟨s,w,rfl,rfl,rfl,hva⟩:=hva;obtain ⟨s',w',rfl,rfl,rfl,hvb⟩:=hvb;unfold rF at hva hvb;refine zT λh nx K H0 hK=>zL zN yC 100 λhf => ?_;rw [gu.go,gu.t29,zA,gu.zu];refine H0.box (l:=[I a,.zb]) rfl λpa h1 nx1 H1 => ?_;refine H1.box (l:=[I b,.zb]) rfl λpb h2 nx2 H2 => ?_;refine H2.alloc λp h3 nx3 H3 => ?_;refine H3.alloc λq h4 nx4 H4 => ?_;rw [zA,zA,gu.zo,gu.tJ,gu.tK,sFx,H4.load (k:=3) (i:=0+1) (v:=.zb) rfl rfl,kI];simp only [yL];rw [sFx,H4.load (k:=2) (i:=0+1) (v:=.zb) rfl rfl,kI,zY,gu.aH,gu.sQ];simp only [yL];rw [sFx,H4.load (k:=3) (i:=0+0) rfl rfl,fB,zY,zB,gu.v15];rw [Zab (by omega),Zam,zC,zA,gu.yw,sFx,H4.load (k:=3) (i:=0+0) rfl rfl,sFx,H4.load (k:=2) (i:=0+0) rfl rfl,ztu (by omega) hb,sFx,H4.load (k:=3) (i:=0+0) rfl rfl,sFx,H4.load (k:=2) (i:=0+0) rfl rfl,ztv hb,zA,zA,gu.vk,jf,zB,gu.v16];obtain ⟨f1,f2⟩:=ze5 (a:=a) hb;have hq2 : -9223372036854775807<=a.tdiv b/\a.tdiv b<=9223372036854775807:=by
  have:=Int.natAbs_tdiv_le_natAbs a b;omega
 have hmod:=Int.emod_nonneg a (show b≠0 by omega);have hmod2:=Int.emod_lt_of_pos a (show 0<b by omega);have hrt:=Int.mul_tdiv_add_tmod a b;have hr1 : -b<a.tmod b:=by
  by_cases cr:a.tmod b<0
  .exact (f1 cr).2.2
  .omega
 have hr2:=Zgn a (show 0<b by omega);have hqm : -9223372036854775807<=a / b:=zmn (by omega) hb;by_cases cr:a.tmod b<0
 .obtain ⟨g1,g2,g3⟩:=f1 cr;rw [Zac cr,zC,gu.ng,pu (by omega),sFx,H4.load (k:=2) (i:=0+0) rfl rfl,jo (by omega),zA,gu.fF,uQ,uQ];simp only [zF,zO];refine H4.jh (l2:=[I (a.tdiv b-1),.zb]) (k:=1) rfl rfl rfl λh6 H6 => ?_;refine H6.jh (l2:=[I (a.tmod b+b),.zb]) (k:=0) rfl rfl rfl λh7 H7 => ?_;rw [gu.ret,H7.zm (k:=1) (n:=2) rfl rfl,H7.zm (k:=0) (n:=2) rfl rfl];exact hK _ _ _ _ _ H7 (j4 (yT (by unfold rF;omega)).frz (yT (by unfold rF;omega)).frz) ⟨_,_,rfl,by rw [g1];exact yT (by unfold rF;omega),by rw [g2];exact yT (by unfold rF;omega)⟩
 .obtain ⟨g1,g2⟩:=f2 (by omega);rw [Zab cr,zD,zE,zA,gu.fF,uQ,uQ];simp only [zF,zO];refine H4.jh (l2:=[I (a.tdiv b),.zb]) (k:=1) rfl rfl rfl λh6 H6 => ?_;refine H6.jh (l2:=[I (a.tmod b),.zb]) (k:=0) rfl rfl rfl λh7 H7 => ?_;rw [gu.ret,H7.zm (k:=1) (n:=2) rfl rfl,H7.zm (k:=0) (n:=2) rfl rfl];exact hK _ _ _ _ _ H7 (j4 (yT (by unfold rF;omega)).frz (yT (by unfold rF;omega)).frz) ⟨_,_,rfl,by rw [g1];exact yT (by unfold rF;omega),by rw [g2];exact yT (by unfold rF;omega)⟩
theorem zkr {va vb:AV} {a b c:Int} (hva:wz va a) (hvb:wz vb b) (hb:b≠0) (hc:a=c*b):Pure Tryz.prog B 259 [va,vb] (λv=>wz v c):=by
 have hva0:=hva;have hvb0:=hvb;obtain ⟨s,w,rfl,hva⟩:=hva;obtain ⟨s',w',rfl,hvb⟩:=hvb;refine zT λh nx K H0 hK=>zL zN yC 100 λhf => ?_;rw [qw.go,qw.t10,zA,qw.zu];refine H0.box (l:=[s,w]) rfl λpa h1 nx1 H1 => ?_;refine H1.box (l:=[s',w']) rfl λpb h2 nx2 H2 => ?_;refine H2.alloc λp h3 nx3 H3 => ?_
 have tail:∀ {h5:T Blk} {nx5:Pa} {s1 w1 s2 w2:AV} {a' b':Int} {x5 x6:AV},Hp h h5 nx5 [.arr p [I 0,.zb],.arr pb [s2,w2],.arr pa [s1,w1]]->fe s1 w1 a'->fe s2 w2 b'->1<=b'->a'=c*b' ->
   IR.run qw.t8 (CS Tryz.prog B) 100 (fnO qw.res K) (zi qw.res K) (qw.fr (.agg [s,w]) (.agg [s',w']) (.ptr pa 0) (.ptr pb 0) (.ptr p 0) x5 x6) h5 nx5=.ok True:=by
  intro h5 nx5 s1 w1 s2 w2 a' b' x5 x6 H i1 i2 hb' e;rw [qw.t8,zA,qw.fZ,H.zm (k:=2) (n:=2) rfl rfl,H.zm (k:=1) (n:=2) rfl rfl];refine cQ ⟨_,_,rfl,i1⟩ ⟨_,_,rfl,i2⟩ hb' _ _ _ _ ?_;rintro _ ⟨v1,v2,rfl,⟨s3,w3,rfl,i3⟩,⟨s4,w4,rfl,i4⟩⟩ _;rw [jB,jE];refine H.alloc λp1 h6 nx6 H6 => ?_;refine H6.alloc λq1 h7 nx7 H7 => ?_;refine H7.jh (l2:=[s3,w3]) (k:=1) rfl rfl rfl λh8 H8 => ?_;refine H8.jh (l2:=[s4,w4]) (k:=0) rfl rfl rfl λh9 H9 => ?_;rw [zA,qw.uy,H9.zm (k:=1) (n:=2) rfl rfl];refine H9.jh (l2:=[s3,w3]) (k:=2) rfl rfl rfl λh10 H10 => ?_;simp only [zF,zO];rw [qw.ret,H10.zm (k:=2) (n:=2) rfl rfl];have:a' / b'=c:=by rw [e];exact Int.mul_ediv_cancel _ (by omega)
  rw [this] at i3;exact hK _ _ _ _ _ H10 (u7 i3.fix) ⟨_,_,rfl,i3⟩
 rw [zA,zA,qw.zo,H3.zm (k:=1) (n:=2) rfl rfl];refine dT hvb0 _ _ _ _ ?_;rintro _ rfl _;rw [jf,zB,qw.v6];by_cases cb:b<0
 .rw [Zac (by unfold uG;rw [if_pos cb];decide),zC,qw.yw,H3.zm (k:=2) (n:=2) rfl rfl,H3.zm (k:=1) (n:=2) rfl rfl];refine xI hva0 _ _ _ _ ?_;rintro _ ⟨s3,w3,rfl,i3⟩ _;rw [H3.zm (k:=1) (n:=2) rfl rfl,zH];refine xI hvb0 _ _ _ _ ?_;rintro _ ⟨s4,w4,rfl,i4⟩ _;refine H3.jh (l2:=[s3,w3]) (k:=2) rfl rfl rfl λh8 H8 => ?_;refine H8.jh (l2:=[s4,w4]) (k:=1) rfl rfl rfl λh9 H9 => ?_;exact tail H9 i3 i4 (by omega) (by rw [hc,Int.mul_neg])
 .rw [Zab (by unfold uG;rw [if_neg cb];split <;> decide),zD,zE];exact tail H3 hva hvb (by omega) hc
theorem fe.sgn {s w:AV} {z:Int} (h:fe s w z):∃ n,s=I n/\(n<0↔z<0):=by
 obtain ⟨rfl,_⟩:=h;exact ⟨_,rfl,Iff.rfl⟩
theorem zhe {v:AV} {z:Int} (hv:wz v z):Pure Tryz.prog B 299 [v] (λv=>wz v (z.natAbs:Int)):=by
 have hv0:=hv;obtain ⟨s,w,rfl,hv⟩:=hv;obtain ⟨n,rfl,hn⟩:=hv.sgn;refine zT λh nx K H0 hK=>zL zN yC 100 λhf => ?_;rw [mh.go,mh.t9,zA,mh.zu];refine H0.box (l:=[I n,w]) rfl λpa h1 nx1 H1 => ?_;refine H1.alloc λp h2 nx2 H2 => ?_;rw [zA,zA,mh.zo,sFx,H2.load (k:=1) (i:=0+0) rfl rfl,jf,zB,mh.v3];by_cases c:n<0
 .rw [Zac c,zC,zA,mh.yw,H2.zm (k:=1) (n:=2) rfl rfl];refine xI hv0 _ _ _ _ ?_;rintro _ ⟨s',w',rfl,hc⟩ _;refine H2.jh (l2:=[s',w']) (k:=0) rfl rfl rfl λh4 H4 => ?_;simp only [zF,zO];rw [mh.ret,H4.zm (k:=0) (n:=2) rfl rfl];have:=hn.1 c;rw [show -z=(z.natAbs:Int) by omega] at hc;exact hK _ _ _ _ _ H4 (u7 hc.fix) ⟨_,_,rfl,hc⟩
 .rw [Zab c,zD,zE,zA,mh.uy,H2.zm (k:=1) (n:=2) rfl rfl];refine H2.jh (l2:=[I n,w]) (k:=0) rfl rfl rfl λh4 H4 => ?_;simp only [zF,zO];rw [mh.ret,H4.zm (k:=0) (n:=2) rfl rfl];have:¬ z<0:=λq=>c (hn.2 q);rw [show z=(z.natAbs:Int) by omega] at hv;exact hK _ _ _ _ _ H4 (u7 hv.fix) ⟨_,_,rfl,hv⟩
theorem zqz {va vb:AV} {a b:Int} (hva:wz va a) (hvb:wz vb b):Pure Tryz.prog B 258 [va,vb] (λv=>wz v (Int.gcd a b:Int)):=by
 have hva0:=hva;have hvb0:=hvb;obtain ⟨s,w,rfl,hva⟩:=hva;obtain ⟨s',w',rfl,hvb⟩:=hvb;refine zT λh nx K H0 hK=>zL zN yC (b.natAbs+100) λhf => ?_;rw [uo.go,uo.t16,zA,uo.zu];refine H0.box (l:=[s,w]) rfl λpa h1 nx1 H1 => ?_;refine H1.box (l:=[s',w']) rfl λpb h2 nx2 H2 => ?_;refine H2.alloc λp h3 nx3 H3 => ?_;rw [zA,uo.zo,H3.zm (k:=2) (n:=2) rfl rfl,H3.zm (k:=1) (n:=2) rfl rfl];refine zhe hva0 _ _ _ _ ?_;rintro _ ⟨s1,w1,rfl,i1⟩ _;rw [H3.zm (k:=1) (n:=2) rfl rfl,zH];refine zhe hvb0 _ _ _ _ ?_;rintro _ ⟨s2,w2,rfl,i2⟩ _;refine H3.jh (l2:=[s1,w1]) (k:=2) rfl rfl rfl λh4 H4 => ?_;refine H4.jh (l2:=[s2,w2]) (k:=1) rfl rfl rfl λh5 H5 => ?_;rw [zA,zI];refine uo.zm6 (λm h' nx'=>∃ (x y:Nat) (s1 w1 s2 w2:AV),fe s1 w1 (x:Int)/\fe s2 w2 (y:Int)/\m=y/\Nat.gcd x y=Int.gcd a b/\Hp h h' nx' [.arr p [I 0,.zb],.arr pb [s2,w2],.arr pa [s1,w1]]) (m:=b.natAbs) (by omega) ⟨a.natAbs,b.natAbs,s1,w1,s2,w2,i1,i2,rfl,rfl,H5⟩ ?_;rintro m z5 z6 h6 nx6 R ⟨x,y,s1,w1,s2,w2,i1,i2,rfl,hg,H6⟩ hR;rw [uo.t9,zA,zA,uo.yw,H6.zm (k:=1) (n:=2) rfl rfl];refine dT ⟨_,_,rfl,i2⟩ _ _ _ _ ?_;rintro _ rfl _;rw [fB,zB,uo.v6];by_cases c:m=0
 .subst c;rw [Zac (by rfl),Zao,zD,zX,yD,zA,uo.rH,H6.zm (k:=2) (n:=2) rfl rfl];refine H6.jh (l2:=[s1,w1]) (k:=0) rfl rfl rfl λh7 H7 => ?_;simp only [zF,zO];rw [uo.ret,H7.zm (k:=0) (n:=2) rfl rfl];rw [Zgm] at hg;rw [hg] at i1;exact hK _ _ _ _ _ H7 (u7 i1.fix) ⟨_,_,rfl,i1⟩
 .have hs:uG (m:Int)=1:=by unfold uG;rw [if_neg (by omega),if_pos (by omega)]
  rw [hs,Zab (by decide),Zam,zC,zE,zI,zA,uo.fZ,H6.zm (k:=2) (n:=2) rfl rfl,H6.zm (k:=1) (n:=2) rfl rfl];refine cQ ⟨_,_,rfl,i1⟩ ⟨_,_,rfl,i2⟩ (by omega) _ _ _ _ ?_;rintro _ ⟨v1,v2,rfl,⟨s3,w3,rfl,i3⟩,⟨s4,w4,rfl,i4⟩⟩ _;rw [jB,jE];refine H6.alloc λp1 h7 nx7 H7 => ?_;refine H7.alloc λq1 h8 nx8 H8 => ?_;refine H8.jh (l2:=[s3,w3]) (k:=1) rfl rfl rfl λh9 H9 => ?_;refine H9.jh (l2:=[s4,w4]) (k:=0) rfl rfl rfl λh10 H10 => ?_;rw [uo.uy,H10.zm (k:=3) (n:=2) rfl rfl,H10.zm (k:=0) (n:=2) rfl rfl];refine H10.jh (l2:=[s2,w2]) (k:=4) rfl rfl rfl λh11 H11 => ?_;rw [H11.zm (k:=0) (n:=2) rfl rfl,zH];refine H11.jh (l2:=[s4,w4]) (k:=3) rfl rfl rfl λh12 H12 => ?_;rw [<- Int.natCast_emod] at i4;have hlt:=Zds x (show 0<m by omega);refine hR (x%m) _ _ _ _ hlt ⟨m,x%m,s2,w2,s4,w4,i2,i4,rfl,?_,H12.drop.drop⟩;rw [<- hg,Zfi x m,Nat.gcd_rec m x,Zfi]
theorem fe.two {s w:AV} {z:Int} (h:fe s w z):s=I z/\w=.zb/\rF z/\∀ K:AV->OP,za .eql (.nil .sl) w .zb K=K (.bool true):=by
 obtain ⟨rfl,rfl,h⟩:=h;exact ⟨rfl,rfl,h,λ_=>kI⟩
theorem vR {a b:Int} {M N:Nat} (ha:a.natAbs<=M) (hb:b.natAbs<=N) (h:M*N<=9223372036854775807):rF (a*b):=by
 have:=Zbl ha hb;rw [<- Zcc] at this;unfold rF;omega
theorem zhf {a b:Int} {M:Nat} (ha:a.natAbs<=M) (hb:b.natAbs<=M) (h:2*M<=9223372036854775807):rF (a+b):=by unfold rF;omega
def xg (M:Nat) (q:Rat):Prop:=q.num.natAbs<=M/\q.den<=M
theorem xg.mono {M N:Nat} {q:Rat} (h:xg M q) (hN:M<=N):xg N q:=⟨Zax h.1 hN,Zax h.2 hN⟩
theorem xg.neg {M:Nat} {q:Rat} (h:xg M q):xg M (-q):=⟨by rw [Zfs,Zdz];exact h.1,by rw [Rat.neg_den];exact h.2⟩
theorem pK {t:T AV} {l:List AV} {off n:Nat} (h:yY t 0 l.length=l) (hle:off+n<=l.length):yY t off n=(l.drop off).take n:=by
 apply Zbu;intro i;by_cases hi:i<n
 .rw [yN _ _ _ _ hi,Zhe hi,Zhf];have:=yN t 0 l.length (off+i) (by omega);rw [h,Zbg] at this;exact this.symm
 .rw [Zha (by rw [uM];omega),Zha (by simp;omega)]
theorem Hp.ku {h0 h:T Blk} {nx:Pa} {L:List Ob} {k n off:Nat} {id:Pa} {l l2:List AV} {op:AV->OP} (H:Hp h0 h nx L) (hk:L[k]? = some (.arr id l)) (hle:off+n<=l.length) (he:(l.drop off).take n=l2):zK n (.ptr id off) h op=op (.agg l2):=by
 obtain ⟨o,t,h1,h2⟩:=H.own _ (Zad hk);show qm (T.get .no id h) (λ_ m t=>bif Nat.ble (off+n) m then op (.agg (yY t off n)) else .no 8) (.no 9)=_;rw [h1];show (bif Nat.ble (off+n) l.length then op (.agg (yY t off n)) else .no 8)=_;rw [Zag hle,cond_true,pK h2 hle,he]
def jP (v:AV) (q:Rat):Prop:=∃ s w s' w',v=.agg [s,w,s',w']/\fe s w q.num/\fe s' w' (q.den:Int)
theorem fe.fix4 {s w s' w':AV} {a b:Int} (h:fe s w a) (h':fe s' w' b):∀ v∈[s,w,s',w'],rJ v=true:=by
 intro v hv;rcases Zas.1 hv with rfl | hv
 .exact h.fix _ (by simp)
 rcases Zas.1 hv with rfl | hv
 .exact h.fix _ (by simp)
 exact h'.fix _ hv
theorem fe.build {s w s' w':AV} {a b:Int} (h:fe s w a) (h':fe s' w' b) {K:AV->OP}:uX [(I 0),.zb,(I 0),.zb] [(0,2,.agg [s,w]),(2,2,.agg [s',w'])] K=K (.agg [s,w,s',w']):=nr rfl
theorem dD {v:AV} {q:Rat} (hv:jP v q):Pure Tryz.prog B 122 [v] (· = .bool (decide (q.den=1))):=by
 obtain ⟨s,w,s',w',rfl,h1,h2⟩:=hv;refine zT λh nx K H0 hK=>zL zN yC 100 λhf => ?_;rw [dz.go,dz.t3,zA,dz.zu];refine H0.box (l:=[s,w,s',w']) rfl λpa h1 nx1 H1 => ?_;rw [zA,dz.zo,dz.tJ,dz.tK,sFx,sFx,H1.load (k:=0) (i:=0+2+1) (v:=w') rfl rfl];obtain ⟨rfl,rfl,_,e2⟩:=h2.two;rw [e2];simp only [yL];rw [sFx,sFx,H1.load (k:=0) (i:=0+2+0) rfl rfl,dz.aH,dz.sQ];simp only [yL];rw [qz];simp only [zY];simp only [zF,zO];rw [dz.ret];exact hK _ _ _ _ _ H1 (zS rfl) (by congr 1;exact decide_eq_decide.2 (by omega))
theorem kM {n d:Int} (hd:0<d):(Rat.divInt n d).num=n / (Int.gcd n d:Int)/\((Rat.divInt n d).den:Int)=d / (Int.gcd n d:Int):=by
 refine ⟨?_,?_⟩
 .rw [Rat.num_divInt,Int.sign_eq_one_of_pos hd,Int.one_mul,Int.gcd_comm]
 .rw [Rat.den_divInt,if_neg (by omega),Int.gcd_comm,Int.natCast_ediv]
  congr 1
  omega
theorem zdk {z:Int}:((z:Rat)).num=z/\(((z:Rat)).den:Int)=1:=⟨Zfe z,by rw [Zgb];rfl⟩
theorem zb5 {v:AV} {z:Int} (hv:wz v z):Pure Tryz.prog B 186 [v] (λv=>jP v (z:Rat)):=by
 obtain ⟨s,w,rfl,hv⟩:=hv;refine zT λh nx K H0 hK=>zL zN yC 100 λhf => ?_;rw [nS.go,nS.t3,zA,nS.zu];refine H0.box (l:=[s,w]) rfl λpa h1 nx1 H1 => ?_;refine H1.alloc λp h2 nx2 H2 => ?_;rw [zA,nS.zo,H2.zm (k:=1) (n:=2) rfl rfl];refine zqy (by unfold rF;omega) _ _ _ _ ?_;rintro _ ⟨s',w',rfl,h'⟩ _;rw [H2.zm (k:=1) (n:=2) rfl rfl,zH,hv.build h'];refine H2.jh (l2:=[s,w,s',w']) (k:=0) rfl rfl rfl λh4 H4 => ?_;simp only [zF,zO];rw [nS.ret,H4.zm (k:=0) (n:=4) rfl rfl];exact hK _ _ _ _ _ H4 (u7 (hv.fix4 h')) ⟨_,_,_,_,rfl,by rw [zdk.1];exact hv,by rw [zdk.2];exact h'⟩
theorem zhg {z:Int} (h:rF z):Pure Tryz.prog B 96 [I z] (λv=>jP v (z:Rat)):=by
 refine zT λhh nx K H0 hK=>zL zN yC 100 λhf => ?_;rw [F96.go,F96.t3,zA,F96.zu];refine H0.alloc λp h2 nx2 H2 => ?_;rw [zA,F96.zo];refine zqy h _ _ _ _ ?_;intro v hv _;refine zb5 hv _ _ _ _ ?_;rintro _ ⟨s,w,s',w',rfl,i1,i2⟩ _;refine H2.jh (l2:=[s,w,s',w']) (k:=0) rfl rfl rfl λh4 H4 => ?_;simp only [zF,zO];rw [F96.ret,H4.zm (k:=0) (n:=4) rfl rfl];exact hK _ _ _ _ _ H4 (u7 (i1.fix4 i2)) ⟨_,_,_,_,rfl,i1,i2⟩
theorem bR {va vb:AV} {a b:Int} (hva:wz va a) (hvb:wz vb b) (hb:b≠0):Pure Tryz.prog B 195 [va,vb] (λv=>jP v (Rat.divInt a b)):=by
 have hva0:=hva;have hvb0:=hvb;obtain ⟨s,w,rfl,hva⟩:=hva;obtain ⟨s',w',rfl,hvb⟩:=hvb;refine zT λh nx K H0 hK=>zL zN yC 100 λhf => ?_;rw [jr.go,jr.t16,zA,jr.zu];refine H0.box (l:=[s,w]) rfl λpa h1 nx1 H1 => ?_;refine H1.box (l:=[s',w']) rfl λpb h2 nx2 H2 => ?_;refine H2.alloc λp h3 nx3 H3 => ?_
 have tail:∀ {h5:T Blk} {nx5:Pa} {s1 w1 s2 w2:AV} {a' b':Int} {x5 x6 x7:AV},Hp h h5 nx5 [.arr p [I 0,.zb,I 0,.zb],.arr pb [s2,w2],.arr pa [s1,w1]]->fe s1 w1 a'->fe s2 w2 b'->1<=b'->Rat.divInt a' b'=Rat.divInt a b ->
   IR.run jr.t14 (CS Tryz.prog B) 100 (fnO jr.res K) (zi jr.res K) (jr.fr (.agg [s,w]) (.agg [s',w']) (.ptr pa 0) (.ptr pb 0) (.ptr p 0) x5 x6 x7) h5 nx5=.ok True:=by
  intro h5 nx5 s1 w1 s2 w2 a' b' x5 x6 x7 H i1 i2 hb' e;obtain ⟨d1,d2⟩:=kM (n:=a') (show 0<b' by omega);have general:∀ {x5 x6 x7:AV},IR.run jr.t13 (CS Tryz.prog B) 100 (fnO jr.res K) (zi jr.res K) (jr.fr (.agg [s,w]) (.agg [s',w']) (.ptr pa 0) (.ptr pb 0) (.ptr p 0) x5 x6 x7) h5 nx5=.ok True:=by
   intro x5 x6 x7;rw [jr.t13,zA,jr.ny,H.zm (k:=2) (n:=2) rfl rfl,H.zm (k:=1) (n:=2) rfl rfl];refine zqz ⟨_,_,rfl,i1⟩ ⟨_,_,rfl,i2⟩ _ _ _ _ ?_;rintro _ ⟨s3,w3,rfl,i3⟩ _;have g0:0<Int.gcd a' b':=Int.gcd_pos_of_ne_zero_right _ (by omega);refine H.alloc λp1 h6 nx6 H6 => ?_;refine H6.jh (l2:=[s3,w3]) (k:=0) rfl rfl rfl λh7 H7 => ?_;rw [zA,jr.xu,H7.zm (k:=3) (n:=2) rfl rfl,H7.zm (k:=0) (n:=2) rfl rfl,H7.zm (k:=2) (n:=2) rfl rfl,H7.zm (k:=0) (n:=2) rfl rfl];refine zkr (c:=a' / (Int.gcd a' b':Int)) ⟨_,_,rfl,i1⟩ ⟨_,_,rfl,i3⟩  (by omega) (Int.ediv_mul_cancel (Zev ..)).symm _ _ _ _ ?_;rintro _ ⟨s4,w4,rfl,i4⟩ _;rw [H7.zm (k:=0) (n:=2) rfl rfl,zH,H7.zm (k:=2) (n:=2) rfl rfl,zH];refine zkr (c:=b' / (Int.gcd a' b':Int)) ⟨_,_,rfl,i2⟩ ⟨_,_,rfl,i3⟩  (by omega) (Int.ediv_mul_cancel (Zfq ..)).symm _ _ _ _ ?_;rintro _ ⟨s5,w5,rfl,i5⟩ _;rw [i4.build i5];refine H7.jh (l2:=[s4,w4,s5,w5]) (k:=1) rfl rfl rfl λh8 H8 => ?_;simp only [zF,zO];rw [jr.ret,H8.zm (k:=1) (n:=4) rfl rfl];exact hK _ _ _ _ _ H8 (u7 (i4.fix4 i5)) ⟨_,_,_,_,rfl,by rw [<- e,d1];exact i4,by rw [<- e,d2];exact i5⟩
  rw [jr.t14,zA,zA,jr.fZ,sFx,H.load (k:=1) (i:=0+1) (v:=w2) rfl rfl];obtain ⟨rfl,rfl,_,e2⟩:=i2.two
  .rw [e2];simp only [yL];rw [sFx,H.load (k:=1) (i:=0+0) rfl rfl,qz,zY,zB,jr.v7];by_cases c:b'=1
   .subst c;rw [Zac rfl,zC,zA,jr.uy,H.zm (k:=2) (n:=2) rfl rfl,H.zm (k:=1) (n:=2) rfl rfl,i1.build i2];refine H.jh (l2:=[s1,w1,I 1,.zb]) (k:=0) rfl rfl rfl λh8 H8 => ?_;simp only [zF,zO];rw [jr.ret,H8.zm (k:=0) (n:=4) rfl rfl];rw [Int.gcd_one] at d1 d2;exact hK _ _ _ _ _ H8 (u7 (i1.fix4 i2)) ⟨_,_,_,_,rfl,by rw [<- e,d1];simpa using i1,by rw [<- e,d2];simpa using i2⟩
   .rw [Zab c,zD,zE];exact general
 rw [zA,zA,jr.zo,H3.zm (k:=1) (n:=2) rfl rfl];refine dT hvb0 _ _ _ _ ?_;rintro _ rfl _;rw [jf,zB,jr.v6];by_cases cb:b<0
 .rw [Zac (by unfold uG;rw [if_pos cb];decide),zC,jr.yw,H3.zm (k:=2) (n:=2) rfl rfl,H3.zm (k:=1) (n:=2) rfl rfl];refine xI hva0 _ _ _ _ ?_;rintro _ ⟨s3,w3,rfl,i3⟩ _;rw [H3.zm (k:=1) (n:=2) rfl rfl,zH];refine xI hvb0 _ _ _ _ ?_;rintro _ ⟨s4,w4,rfl,i4⟩ _;refine H3.jh (l2:=[s3,w3]) (k:=2) rfl rfl rfl λh8 H8 => ?_;refine H8.jh (l2:=[s4,w4]) (k:=1) rfl rfl rfl λh9 H9 => ?_;exact tail H9 i3 i4 (by omega) (Rat.neg_divInt_neg ..)
 .rw [Zab (by unfold uG;rw [if_neg cb];split <;> decide),zD,zE];exact tail H3 hva hvb (by omega) rfl
theorem xT (op:KW3->OP) (h:T Blk) (nx:Pa) (k:KW3):sGW (.bool true) true op h nx k=op k:=nr rfl
theorem zb6 (op:KW3->OP) (h:T Blk) (nx:Pa) (k:KW3):sGW (.bool false) true op h nx k=k .u h nx:=nr rfl
theorem wA (q:Rat):Rat.divInt q.num (q.den:Int)=q:=Rat.num_divInt_den q
theorem kB (q:Rat):(q.den:Int)≠0:=by have:=q.den_nz;omega
theorem zdl (a b:Rat):Rat.divInt (a.num*b.num) ((a.den:Int)*(b.den:Int))=a*b:=by
 rw [<- Rat.divInt_mul_divInt,wA,wA]
theorem zdm (a b:Rat):Rat.divInt (a.num*(b.den:Int)+b.num*(a.den:Int)) ((a.den:Int)*(b.den:Int))=a+b:=by
 rw [<- Rat.divInt_add_divInt _ _ (kB a) (kB b),wA,wA]
theorem cI {q:Rat} (h:q.den=1):((q.num:Int):Rat)=q:=Rat.ext (Zfe _) (by rw [Zgb,h])
theorem sH {z:Int}:uG z=0↔z=0:=by unfold uG;split <;> (try split) <;> constructor <;> intro <;> omega
theorem bV {v:AV} {q:Rat} (hv:jP v q):Pure Tryz.prog B 110 [v] (· = I (uG q.num)):=by
 obtain ⟨s,w,s',w',rfl,i1,i2⟩:=hv;refine zT λh nx K H0 hK=>zL zN yC 100 λhf => ?_;rw [nT.go,nT.t3,zA,nT.zu];refine H0.box (l:=[s,w,s',w']) rfl λpa h1 nx1 H1 => ?_;rw [zA,nT.zo,sFx,H1.ku (k:=0) (l2:=[s,w]) rfl (by simp) rfl];refine dT ⟨_,_,rfl,i1⟩ _ _ _ _ ?_;rintro _ rfl _;simp only [zF,zO];rw [nT.ret];exact hK _ _ _ _ _ H1 (zS rfl) rfl
theorem zdn {v:AV} {q:Rat} (hv:jP v q):Pure Tryz.prog B 107 [v] (λv=>jP v (-q)):=by
 obtain ⟨s,w,s',w',rfl,i1,i2⟩:=hv;refine zT λh nx K H0 hK=>zL zN yC 100 λhf => ?_;rw [nU.go,nU.t3,zA,nU.zu];refine H0.box (l:=[s,w,s',w']) rfl λpa h1 nx1 H1 => ?_;refine H1.alloc λp h2 nx2 H2 => ?_;have ln:∀ op:AV->OP,zK 2 (.ptr pa (0+0)) h2 op=op (.agg [s,w]):=λop=>H2.ku (k:=1) rfl (by simp) rfl;have ld:∀ op:AV->OP,zK 2 (.ptr pa (0+2)) h2 op=op (.agg [s',w']):=λop=>H2.ku (k:=1) rfl (by simp) rfl;rw [zA,nU.zo,sFx,ln,sFx,ld];refine xI ⟨_,_,rfl,i1⟩ _ _ _ _ ?_;rintro _ ⟨s3,w3,rfl,i3⟩ _;rw [ld,zH,sFx,zH,i3.build i2];refine H2.jh (l2:=[s3,w3,s',w']) (k:=0) rfl rfl rfl λh4 H4 => ?_;simp only [zF,zO];rw [nU.ret,H4.zm (k:=0) (n:=4) rfl rfl];exact hK _ _ _ _ _ H4 (u7 (i3.fix4 i2)) ⟨_,_,_,_,rfl,by rw [Zfs];exact i3,by rw [Rat.neg_den];exact i2⟩
theorem zmo {v:AV} {q:Rat} (hv:jP v q) (h0:q≠0):Pure Tryz.prog B 112 [v] (λv=>jP v q⁻¹):=by
 obtain ⟨s,w,s',w',rfl,i1,i2⟩:=hv;refine zT λh nx K H0 hK=>zL zN yC 100 λhf => ?_;rw [nV.go,nV.t3,zA,nV.zu];refine H0.box (l:=[s,w,s',w']) rfl λpa h1 nx1 H1 => ?_;refine H1.alloc λp h2 nx2 H2 => ?_;have ln:∀ op:AV->OP,zK 2 (.ptr pa (0+0)) h2 op=op (.agg [s,w]):=λop=>H2.ku (k:=1) rfl (by simp) rfl;have ld:∀ op:AV->OP,zK 2 (.ptr pa (0+2)) h2 op=op (.agg [s',w']):=λop=>H2.ku (k:=1) rfl (by simp) rfl;rw [zA,nV.zo,sFx,ld,sFx,ln];refine bR ⟨_,_,rfl,i2⟩ ⟨_,_,rfl,i1⟩ (λe=>h0 (Zcr.1 e)) _ _ _ _ ?_;rintro _ ⟨s3,w3,s4,w4,rfl,i3,i4⟩ _;refine H2.jh (l2:=[s3,w3,s4,w4]) (k:=0) rfl rfl rfl λh4 H4 => ?_;simp only [zF,zO];rw [nV.ret,H4.zm (k:=0) (n:=4) rfl rfl];rw [<- Rat.inv_def] at i3 i4;exact hK _ _ _ _ _ H4 (u7 (i3.fix4 i4)) ⟨_,_,_,_,rfl,i3,i4⟩
theorem zhh {va vb:AV} {a b:Rat} {M N:Nat} (hva:jP va a) (hvb:jP vb b) (ha:xg M a) (hb:xg N b) (h:M*N<=9223372036854775807):Pure Tryz.prog B 119 [va,vb] (λv=>jP v (a*b)):=by
 obtain ⟨s,w,s',w',rfl,i1,i2⟩:=hva;obtain ⟨t,u,t',u',rfl,j1,j2⟩:=hvb;refine zT λhh nx K H0 hK=>zL zN yC 100 λhf => ?_;rw [nW.go,nW.t3,zA,nW.zu];refine H0.box (l:=[s,w,s',w']) rfl λpa h1 nx1 H1 => ?_;refine H1.box (l:=[t,u,t',u']) rfl λpb h2 nx2 H2 => ?_;refine H2.alloc λp h3 nx3 H3 => ?_;have an:∀ op:AV->OP,zK 2 (.ptr pa (0+0)) h3 op=op (.agg [s,w]):=λop=>H3.ku (k:=2) rfl (by simp) rfl;have ad:∀ op:AV->OP,zK 2 (.ptr pa (0+2)) h3 op=op (.agg [s',w']):=λop=>H3.ku (k:=2) rfl (by simp) rfl;have bn:∀ op:AV->OP,zK 2 (.ptr pb (0+0)) h3 op=op (.agg [t,u]):=λop=>H3.ku (k:=1) rfl (by simp) rfl;have bd:∀ op:AV->OP,zK 2 (.ptr pb (0+2)) h3 op=op (.agg [t',u']):=λop=>H3.ku (k:=1) rfl (by simp) rfl;rw [zA,nW.zo,sFx,an,sFx,bn,sFx,ad,sFx,bd];refine vX ⟨_,_,rfl,i1⟩ ⟨_,_,rfl,j1⟩ (vR ha.1 hb.1 h) _ _ _ _ ?_;intro v1 hv1 _;rw [bd,zH,sFx,zH,ad,zH,sFx,zH];refine vX ⟨_,_,rfl,i2⟩ ⟨_,_,rfl,j2⟩ (vR (M:=M) (N:=N) ha.2 hb.2 h) _ _ _ _ ?_;intro v2 hv2 _;refine bR hv1 hv2 (Int.mul_ne_zero (kB a) (kB b)) _ _ _ _ ?_;rintro _ ⟨s3,w3,s4,w4,rfl,i3,i4⟩ _;refine H3.jh (l2:=[s3,w3,s4,w4]) (k:=0) rfl rfl rfl λh4 H4 => ?_;simp only [zF,zO];rw [nW.ret,H4.zm (k:=0) (n:=4) rfl rfl];rw [zdl] at i3 i4;exact hK _ _ _ _ _ H4 (u7 (i3.fix4 i4)) ⟨_,_,_,_,rfl,i3,i4⟩
theorem zq0 {va vb:AV} {a b:Rat} {M N:Nat} (hva:jP va a) (hvb:jP vb b) (ha:xg M a) (hb:xg N b) (h:2*(M*N)<=9223372036854775807):Pure Tryz.prog B 114 [va,vb] (λv=>jP v (a+b)):=by
 have hva0:=hva;have hvb0:=hvb;obtain ⟨s,w,s',w',rfl,i1,i2⟩:=hva;obtain ⟨t,u,t',u',rfl,j1,j2⟩:=hvb;refine zT λhh nx K H0 hK=>zL zN yC 100 λhf => ?_;rw [xh.go,xh.t9,zA,xh.zu];refine H0.box (l:=[s,w,s',w']) rfl λpa h1 nx1 H1 => ?_;refine H1.box (l:=[t,u,t',u']) rfl λpb h2 nx2 H2 => ?_;refine H2.alloc λp h3 nx3 H3 => ?_;have an:∀ op:AV->OP,zK 2 (.ptr pa (0+0)) h3 op=op (.agg [s,w]):=λop=>H3.ku (k:=2) rfl (by simp) rfl;have ad:∀ op:AV->OP,zK 2 (.ptr pa (0+2)) h3 op=op (.agg [s',w']):=λop=>H3.ku (k:=2) rfl (by simp) rfl;have bn:∀ op:AV->OP,zK 2 (.ptr pb (0+0)) h3 op=op (.agg [t,u]):=λop=>H3.ku (k:=1) rfl (by simp) rfl;have bd:∀ op:AV->OP,zK 2 (.ptr pb (0+2)) h3 op=op (.agg [t',u']):=λop=>H3.ku (k:=1) rfl (by simp) rfl;have general:∀ {x5:AV},IR.run xh.t7 (CS Tryz.prog B) 100 (fnO xh.res K) (zi xh.res K) (xh.fr (.agg [s,w,s',w']) (.agg [t,u,t',u']) (.ptr pa 0) (.ptr pb 0) (.ptr p 0) x5) h3 nx3=.ok True:=by
  intro x5;rw [xh.t7,zA,xh.uy,sFx,an,sFx,bd,sFx,bn,sFx,ad,sFx,ad,sFx,bd];refine vX ⟨_,_,rfl,i1⟩ ⟨_,_,rfl,j2⟩ (vR ha.1 (show Int.natAbs (b.den:Int)<=N from hb.2) (by omega)) _ _ _ _ ?_;intro v1 hv1 _;rw [bd,zH,sFx,zH,ad,zH,sFx,zH,ad,zH,sFx,zH,bn,zH,sFx,zH];refine vX ⟨_,_,rfl,j1⟩ ⟨_,_,rfl,i2⟩ (vR hb.1 (show Int.natAbs (a.den:Int)<=M from ha.2) (by rw [Zby];omega)) _ _ _ _ ?_;intro v2 hv2 _;rw [bd,zH,sFx,zH,ad,zH,sFx,zH];refine zkq hv1 hv2 (zhf (M:=M*N) (by rw [Zcc];exact Zbl ha.1 hb.2) (by rw [Zcc,Zby M N];exact Zbl hb.1 ha.2) h) _ _ _ _ ?_;intro v3 hv3 _;rw [bd,zH,sFx,zH,ad,zH,sFx,zH];refine vX ⟨_,_,rfl,i2⟩ ⟨_,_,rfl,j2⟩ (vR (M:=M) (N:=N) ha.2 hb.2 (by omega)) _ _ _ _ ?_;intro v4 hv4 _;refine bR hv3 hv4 (Int.mul_ne_zero (kB a) (kB b)) _ _ _ _ ?_;rintro _ ⟨s3,w3,s4,w4,rfl,i3,i4⟩ _;refine H3.jh (l2:=[s3,w3,s4,w4]) (k:=0) rfl rfl rfl λh4 H4 => ?_;simp only [zF,zO];rw [xh.ret,H4.zm (k:=0) (n:=4) rfl rfl];rw [zdm] at i3 i4;exact hK _ _ _ _ _ H4 (u7 (i3.fix4 i4)) ⟨_,_,_,_,rfl,i3,i4⟩
 rw [zA,zA,xh.zo,H3.zm (k:=2) (n:=4) rfl rfl];refine dD hva0 _ _ _ _ ?_;rintro _ rfl _;by_cases ca:a.den=1
 .rw [Zac ca];simp only [yL];rw [H3.zm (k:=1) (n:=4) rfl rfl,xT];refine dD hvb0 _ _ _ _ ?_;rintro _ rfl _;rw [zY,zB,xh.v5];by_cases cb:b.den=1
  .rw [Zac cb,zC,zA,xh.yw,sFx,an,sFx,bn];refine zkq ⟨_,_,rfl,i1⟩ ⟨_,_,rfl,j1⟩ (zhf (M:=M*N) (Zax ha.1 (Nat.le_mul_of_pos_right M (by have:=hb.2;have:=b.den_pos;omega))) (Zax hb.1 (Nat.le_mul_of_pos_left N (by have:=ha.2;have:=a.den_pos;omega))) h) _ _ _ _ ?_;intro v1 hv1 _;refine zb5 hv1 _ _ _ _ ?_;rintro _ ⟨s3,w3,s4,w4,rfl,i3,i4⟩ _;refine H3.jh (l2:=[s3,w3,s4,w4]) (k:=0) rfl rfl rfl λh4 H4 => ?_;simp only [zF,zO];rw [xh.ret,H4.zm (k:=0) (n:=4) rfl rfl];have e:((a.num+b.num:Int):Rat)=a+b:=by rw [Zgc,cI ca,cI cb]
   rw [e] at i3 i4;exact hK _ _ _ _ _ H4 (u7 (i3.fix4 i4)) ⟨_,_,_,_,rfl,i3,i4⟩
  .rw [Zab cb,zD,zE];exact general
 .rw [Zab ca];simp only [jD];rw [zb6,yB,zB,xh.v5,zD,zE];exact general
theorem zmp {va vb:AV} {a b:Rat} {M N:Nat} (hva:jP va a) (hvb:jP vb b) (ha:xg M a) (hb:xg N b) (h:2*(M*N)<=9223372036854775807):Pure Tryz.prog B 192 [va,vb] (λv=>jP v (a-b)):=by
 have hva0:=hva;have hvb0:=hvb;obtain ⟨s,w,s',w',rfl,i1,i2⟩:=hva;obtain ⟨t,u,t',u',rfl,j1,j2⟩:=hvb;refine zT λhh nx K H0 hK=>zL zN yC 100 λhf => ?_;rw [nX.go,nX.t3,zA,nX.zu];refine H0.box (l:=[s,w,s',w']) rfl λpa h1 nx1 H1 => ?_;refine H1.box (l:=[t,u,t',u']) rfl λpb h2 nx2 H2 => ?_;refine H2.alloc λp h3 nx3 H3 => ?_;rw [zA,nX.zo,H3.zm (k:=2) (n:=4) rfl rfl,H3.zm (k:=1) (n:=4) rfl rfl];refine zdn hvb0 _ _ _ _ ?_;intro v1 hv1 _;rw [H3.zm (k:=2) (n:=4) rfl rfl,zH];refine zq0 hva0 hv1 ha hb.neg h _ _ _ _ ?_;rintro _ ⟨s3,w3,s4,w4,rfl,i3,i4⟩ _;refine H3.jh (l2:=[s3,w3,s4,w4]) (k:=0) rfl rfl rfl λh4 H4 => ?_;simp only [zF,zO];rw [nX.ret,H4.zm (k:=0) (n:=4) rfl rfl];rw [<- Zfj] at i3 i4;exact hK _ _ _ _ _ H4 (u7 (i3.fix4 i4)) ⟨_,_,_,_,rfl,i3,i4⟩
theorem xg.inv {M:Nat} {q:Rat} (h:xg M q):xg M q⁻¹:=by
 have h1:(q⁻¹).num.natAbs<=q.den/\(q⁻¹).den<=max 1 q.num.natAbs:=by
  rw [Rat.inv_def];by_cases c:q.num=0
  .rw [c];have e:Rat.divInt (q.den:Int) 0=0:=by simp
   rw [e];exact ⟨by simp,by simp⟩
  .refine ⟨?_,?_⟩
   .rw [Rat.num_divInt];refine Zax (Int.natAbs_ediv_le_natAbs _ _) ?_;rw [Zcc,Int.natAbs_sign_of_ne_zero c,Zey,Zbo];exact Zaf _
   .rw [Rat.den_divInt,if_neg c];refine Zax (Zcl _ _) ?_;omega
 obtain ⟨a,b⟩:=h;have:=q.den_pos;exact ⟨by omega,by omega⟩
theorem zwk {a b:Int} {K:AV->OP}:sMin true (I a) [I b] K=K (I (max a b)):=by
 have e:sMin true (I a) [I b] K=K (.int .i64 (bif ilt a b then b else a)):=rfl;rw [e,wY]
 congr 2
 by_cases c:a<b
 .simp only [c,decide_true,cond_true];omega
 .simp only [c,decide_false,cond_false];omega
theorem zks {n:Nat} (h:n<=9223372036854775807):(xk n 1).length<=20:=by
 unfold xk;rw [Zah,Zbp];have:=zg9 (n:=n) (w:=1) (by omega) (by omega);omega
theorem zwl {a b:Int} (ha : -4000000000000000000<=a/\a<=4000000000000000000) (hb:0<b/\b<=4000000000000000000):Pure Tryz.prog B 128 [I a,I b] (· = .str (ql (Rat.divInt a b))):=by
 refine zT λh nx K H0 hK=>zL zN yC 100 λhf => ?_;rw [yc.go,yc.t32,zA,yc.zu]
 have tail:∀ {a b:Int} {x5 x6:AV},(-4000000000000000000<=a/\a<=4000000000000000000)->(0<b/\b<=4000000000000000000)->(∀ v h' nx' L v',Hp h h' nx' L->tN h h' v v'->v'=.str (ql (Rat.divInt a b))->K v h' nx'=.ok True) ->
   yc.t29.run (CS Tryz.prog B) 100 (fnO yc.res K) (zi yc.res K) (yc.fr (I a) (I b) (.str []) .u .u x5 x6 .u .u) h nx=.ok True:=by
  intro a b x5 x6 ha hb hK;have hg:0<Nat.gcd a.natAbs b.natAbs:=Nat.gcd_pos_of_pos_right _ (by omega);have hgl:Nat.gcd a.natAbs b.natAbs<=b.natAbs:=Nat.le_of_dvd (by omega) (Nat.gcd_dvd_right ..);obtain ⟨d1,d2⟩:=kM (n:=a) (d:=b) hb.1;have eg:(Int.gcd a b:Int)=((Nat.gcd a.natAbs b.natAbs:Nat):Int):=rfl;have e1:a.tdiv ((Nat.gcd a.natAbs b.natAbs:Nat):Int)=(Rat.divInt a b).num:=by
   rw [d1,<- eg];exact Int.tdiv_eq_ediv_of_dvd (Zev ..)
  have e2:b.tdiv ((Nat.gcd a.natAbs b.natAbs:Nat):Int)=((Rat.divInt a b).den:Int):=by
   rw [d2,<- eg];exact Int.tdiv_eq_ediv_of_dvd (Zfq ..)
  have hn:(Rat.divInt a b).num.natAbs<=a.natAbs:=by
   rw [<- e1,Int.natAbs_tdiv,Zbo];exact Zcl _ _
  have hd:(Rat.divInt a b).den<=b.natAbs:=by
   have:=congrArg Int.natAbs e2;rw [Int.natAbs_tdiv,Zbo,Zbo] at this;rw [<- this];exact Zcl _ _
  rw [yc.t29,zA,yc.ny,pu (by omega),zwk,show max a (0-a)=(a.natAbs:Int) by omega];have hbb:I b=I (b.natAbs:Int):=by congr 1;omega
  have hgc:∀ KK:Kw Prop,(∀ h2 n3,h2=h->n3=nx->KK (I ((Nat.gcd a.natAbs b.natAbs:Nat):Int)) h2 n3=.ok True)->(CS Tryz.prog B).fn 210 (.of 210) [I (a.natAbs:Int),I b] h nx KK=.ok True:=λKK q=>by
   rw [hbb];refine zyo (by omega) (by omega) _ _ _ _ ?_;rintro _ rfl _;exact q _ _ rfl rfl
  refine hgc _ ?_;rintro h2 n3 rfl rfl;rw [zA,yc.xu,zg4 (by omega) (by omega),zg4 (by omega) (by omega),e1,e2,zA,yc.rH,zA,zA,yc.rP,jf,zB,yc.v7]
  generalize Rat.divInt a b=q at *
  have l1:=zks (n:=q.num.natAbs) (by omega);have l2:=zks (n:=q.den) (by omega);have fin:∀ (sg:List UInt8) (x7:AV),sg=(if q.num<0 then [45] else [])->yc.t25.run (CS Tryz.prog B) 100 (fnO yc.res K) (zi yc.res K) (yc.fr (I q.num) (I (q.den:Int)) (.str []) (I ((Nat.gcd a.natAbs b.natAbs:Nat):Int)) (.str sg) x5 x6 x7 .u) h2 n3=.ok True:=by
   intro sg x7 hsg;have ls:sg.length<=1:=by rw [hsg];split <;> simp
   rw [yc.t25,zA,yc.tL,pu (by omega),zwk,show max q.num (0-q.num)=(q.num.natAbs:Int) by omega];refine vD (w:=1) (by omega) (by omega) _ _ _ _ ?_;rintro _ rfl _;rw [tCat (by omega),zA,zA,yc.zad,pz,zB,yc.v8];have hint:sg++xk q.num.natAbs 1=fC q.num:=by rw [hsg];rfl
   by_cases c:q.den=1
   .rw [Zab (by omega),zD,zE,zA,yc.tO];simp only [zF,zO];rw [yc.ret];exact hK _ _ _ _ _ H0 (zS rfl) (by rw [ql,if_pos c,Zba,hint])
   .have hdp:=q.den_pos;rw [Zac (by omega),zC,yc.sJ,tCat (by simp;omega)];refine vD (w:=1) (by omega) (by omega) _ _ _ _ ?_;rintro _ rfl _;rw [tCat (by simp;omega),zA,yc.tO];simp only [zF,zO];rw [yc.ret];refine hK _ _ _ _ _ H0 (zS rfl) ?_;rw [ql,if_neg c,<- hint,fC,if_neg (show ¬ ((q.den:Int)<0) by omega),Zbk,Zbo];simp
  by_cases d:q.num<0
  .rw [Zac d,zC,yc.rG];exact fin _ _ (by rw [if_pos d])
  .rw [Zab d,zD,zE];exact fin _ _ (by rw [if_neg d])
 rw [zA,zA,yc.zo,yc.tJ,yc.tK,jf,Zab (by omega)];simp only [jG];rw [pz];simp only [yB];rw [Zab (by omega)];simp only [jG];rw [yc.aH,yc.sQ];simp only [jG];rw [jf];simp only [yB];rw [Zab (by omega)];simp only [jG];rw [pz];simp only [yB];rw [Zab (by omega),zB,yc.v5,zD,zE,zA,zA,yc.uy,jf,zB,yc.v6,Zab (by omega),zD,zE];exact tail ha hb hK
def Qd (q:Rat):Prop:=q.num.natAbs<1000000000/\q.den<1000000000
theorem zys {p q:Rat} (hp:Qd p) (hq:Qd q):Pure Tryz.prog B 40 [.str (ql p),.str (ql q)] (· = .str (ql (p+q))):=by
 refine zT λh nx K H0 hK=>zL zN yC 100 λhf => ?_;obtain ⟨p1,p2⟩:=hp;obtain ⟨q1,q2⟩:=hq;rw [F40.go,F40.t17,zA,F40.zu,zA,F40.zo];refine mJ p1 p2 _ _ _ _ ?_;rintro _ rfl _;rw [jB,jE,gC,zA,F40.yw];refine mJ q1 q2 _ _ _ _ ?_;rintro _ rfl _;rw [jB,jE,gC,zA,zA,F40.vk];simp only [yL,zY];have m1:(p.num*(q.den:Int)).natAbs<10 ^ 9*10 ^ 9:=by rw [Zcc];exact Zec p1 (by omega)
 have m2:(q.num*(p.den:Int)).natAbs<10 ^ 9*10 ^ 9:=by rw [Zcc];exact Zec q1 (by omega)
 have m3:((p.den:Int)*(q.den:Int)).natAbs<10 ^ 9*10 ^ 9:=by rw [Zcc];exact Zec (by omega) (by omega)
 have m4:0<(p.den:Int)*(q.den:Int):=Int.mul_pos (Zgd.2 p.den_pos) (Zgd.2 q.den_pos);rw [zB,F40.v13,zC,zA,F40.ng,rE (by omega),rE (by omega),jo (by omega),rE (by omega)];refine zwl (by omega) (by omega) _ _ _ _ ?_;rintro _ rfl _;rw [zdm];simp only [zF,zO];rw [F40.ret];exact hK _ _ _ _ _ H0 (zS rfl) rfl
theorem zq1 {p q:Rat} (hp:Qd p) (hq:Qd q):Pure Tryz.prog B 41 [.str (ql p),.str (ql q)] (· = .str (ql (p*q))):=by
 refine zT λh nx K H0 hK=>zL zN yC 100 λhf => ?_;obtain ⟨p1,p2⟩:=hp;obtain ⟨q1,q2⟩:=hq;rw [F41.go,F41.t17,zA,F41.zu,zA,F41.zo];refine mJ p1 p2 _ _ _ _ ?_;rintro _ rfl _;rw [jB,jE,gC,zA,F41.yw];refine mJ q1 q2 _ _ _ _ ?_;rintro _ rfl _;rw [jB,jE,gC,zA,zA,F41.vk];simp only [yL,zY];have m1:(p.num*q.num).natAbs<10 ^ 9*10 ^ 9:=by rw [Zcc];exact Zec p1 q1
 have m3:((p.den:Int)*(q.den:Int)).natAbs<10 ^ 9*10 ^ 9:=by rw [Zcc];exact Zec (by omega) (by omega)
 have m4:0<(p.den:Int)*(q.den:Int):=Int.mul_pos (Zgd.2 p.den_pos) (Zgd.2 q.den_pos);rw [zB,F41.v13,zC,zA,F41.ng,rE (by omega),rE (by omega)];refine zwl (by omega) (by omega) _ _ _ _ ?_;rintro _ rfl _;rw [zdl];simp only [zF,zO];rw [F41.ret];exact hK _ _ _ _ _ H0 (zS rfl) rfl
theorem ztw:dg 1000000000 1=[1]:=by rw [qJ (by decide) (by decide),show 1 / 1000000000=0 from rfl,gN]
theorem ztx {a g:Int} (hg:0<g) (hd:g∣a):(if decide (a<0)=true then -((a.natAbs / g.natAbs:Nat):Int) else ((a.natAbs / g.natAbs:Nat):Int))=a / g:=by
 obtain ⟨t,rfl⟩:=hd;rw [Zcc,Nat.mul_div_cancel_left _ (by omega),Int.mul_ediv_cancel_left _ (by omega)];by_cases d:t<0
 .rw [if_pos (Zac (Int.mul_neg_of_pos_of_neg hg d))];omega
 .have:0<=g*t:=Zgi (by omega) (by omega);rw [if_neg (by rw [Zab (by omega)];decide)];omega
theorem zhi {a b:Int} {k:Nat} (hk:k<=40000) (ha:Z9 k a) (hb:Z9 k b) (hb0:b≠0) (hbN:b.natAbs<1000000000):Pure Tryz.prog B 130 [oP a,oP b] (· = .str (ql (Rat.divInt a b))):=by
 refine zT λh nx K H0 hK=>zL zN yC 100 λhf => ?_;rw [yj.go,yj.t22,zA,yj.zu];refine H0.box (l:=[.bool (decide (a<0)),bq (dg 1000000000 a.natAbs)]) rfl λpa h1 nx1 H1 => ?_;refine H1.box (l:=[.bool (decide (b<0)),bq (dg 1000000000 b.natAbs)]) rfl λpb h2 nx2 H2 => ?_
 have tail:∀ {h3:T Blk} {nx3:Pa} {a b:Int} {x9:AV},Z9 k a->Z9 k b->0<b->b.natAbs<1000000000->(∀ v h' nx' L v',Hp h h' nx' L->tN h h' v v'->v'=.str (ql (Rat.divInt a b))->K v h' nx'=.ok True)->Hp h h3 nx3 [.arr pb [.bool (decide (b<0)),bq (dg 1000000000 b.natAbs)],.arr pa [.bool (decide (a<0)),bq (dg 1000000000 a.natAbs)]]->∀ {x0 x1:AV},
   IR.run yj.t20 (CS Tryz.prog B) 100 (fnO yj.res K) (zi yj.res K) (yj.fr x0 x1 (.ptr pa 0) (.ptr pb 0) (.str []) .u .u .u .u x9 .u) h3 nx3=.ok True:=by
  intro h3 nx3 a b x9 ha hb hb0 hbN hK H x0 x1;have la:=ha.len;have lb:=hb.len;have hg:0<Nat.gcd a.natAbs b.natAbs:=Nat.gcd_pos_of_pos_right _ (by omega);have hgl:Nat.gcd a.natAbs b.natAbs<=b.natAbs:=Nat.le_of_dvd (by omega) (Nat.gcd_dvd_right ..);obtain ⟨d1,d2⟩:=kM (n:=a) (d:=b) hb0;have eg:(Int.gcd a b:Int)=((Nat.gcd a.natAbs b.natAbs:Nat):Int):=rfl;have hsg:=ztx (a:=a) (g:=(Int.gcd a b:Int)) (by rw [eg];omega) (Zev ..);rw [<- d1,eg,Zbo] at hsg;have hden:(Rat.divInt a b).den=b.natAbs / Nat.gcd a.natAbs b.natAbs:=by
   have e3:b / ((Nat.gcd a.natAbs b.natAbs:Nat):Int)=((b.natAbs / Nat.gcd a.natAbs b.natAbs:Nat):Int):=by
    rw [Int.natCast_ediv]
    congr 1
    omega
   rw [eg,e3] at d2;exact Int.natCast_inj.1 d2
  have hqn:Z9 k (Rat.divInt a b).num:=by
   unfold Z9 at *
   have e4:(Rat.divInt a b).num.natAbs=a.natAbs / Nat.gcd a.natAbs b.natAbs:=by
    rw [<- hsg];split
    .rw [Zdz,Zbo]
    .rw [Zbo]
   rw [e4];exact Zdb (Zcl _ _) ha
  have hqd:Z9 k ((Rat.divInt a b).den:Int):=by
   unfold Z9 at *
   rw [hden,Zbo];exact Zdb (Zcl _ _) hb
  have l1:=xL hqn;have l2:=xL hqd;have oq:=qK (b:=1000000000) (by decide) (a.natAbs / Nat.gcd a.natAbs b.natAbs);have lq:=pX (b:=1000000000) (by decide) (Zcl a.natAbs (Nat.gcd a.natAbs b.natAbs));have Sg:S9 (Nat.gcd a.natAbs b.natAbs):=by
   have:=pX (b:=1000000000) (by decide) hgl;unfold S9;omega
  rw [yj.t20,zA,yj.fZ,sFx,H.load (k:=1) (i:=0+1) rfl rfl,sFx,H.load (k:=0) (i:=0+1) rfl rfl];refine zmk hbN (by unfold S9;omega) (by unfold S9;omega) _ _ _ _ ?_;rintro _ rfl _;rw [zA,yj.uy,sFx,H.load (k:=1) (i:=0+1) rfl rfl];refine bY hg (Zdb hgl hbN) (by unfold S9;omega) Sg _ _ _ _ ?_;rintro _ rfl _;rw [jB,jE,zA,yj.fF,sFx,H.load (k:=0) (i:=0+1) rfl rfl];refine bY hg (Zdb hgl hbN) (by unfold S9;omega) Sg _ _ _ _ ?_;rintro _ rfl _;rw [jB,jE,zA,yj.fU,sFx,H.load (k:=1) (i:=0+0) rfl rfl];refine xF oq.2.1 (by omega) _ _ _ _ ?_;rintro _ rfl _;rw [oq.1,hsg];refine ze3 (by omega) hqn _ _ _ _ ?_;rintro _ rfl _;rw [<- hden,zA,zA,yj.nu]
  generalize Rat.divInt a b=q at *
  have od:=qK (b:=1000000000) (by decide) q.den;by_cases c:q.den=1
  .rw [c,ztw,yj.r6_0,yj.zd3,dLen,qz,Zac (by rfl)];simp only [yL];rw [dIx (l:=[1]) (i:=0) (j:=0) rfl (by simp),dLd (x:=1) rfl,qz,Zac (by rfl),yj.r6_1,yj.oK];simp only [zY];rw [zB,yj.v10,zC,zA,yj.ny];simp only [zF,zO];rw [yj.ret];exact hK _ _ _ _ _ H (zS rfl) (by rw [ql,if_pos c,Zba])
  .have fin:∀ x10:AV,IR.run yj.t15 (CS Tryz.prog B) 100 (fnO yj.res K) (zi yj.res K) (yj.fr x0 x1 (.ptr pa 0) (.ptr pb 0) (.str []) (bq (dg 1000000000 (Nat.gcd a.natAbs b.natAbs))) (bq (dg 1000000000 (a.natAbs / Nat.gcd a.natAbs b.natAbs))) (bq (dg 1000000000 q.den)) (.str (fC q.num)) x9 x10) h3 nx3=.ok True:=by
    intro x10;rw [yj.t15,zA,yj.rG,tCat (by simp;omega)];refine xF od.2.1 (by have:=hqd.len;rw [Zbo] at this;omega) _ _ _ _ ?_;rintro _ rfl _;rw [if_neg (by decide),od.1];refine ze3 (by omega) hqd _ _ _ _ ?_;rintro _ rfl _;rw [tCat (by simp;omega)];simp only [zF,zO];rw [yj.ret];exact hK _ _ _ _ _ H (zS rfl) (by rw [ql,if_neg c,Zcg];rfl)
   rw [yj.r6_0,yj.zd3,dLen,qz];by_cases e:(dg 1000000000 q.den).length=1
   .obtain ⟨e1,e2⟩:=zb0 (b:=1000000000) (by decide) e;rw [Zac (by omega)];simp only [yL];rw [e1,dIx (l:=[q.den]) (i:=0) (j:=0) rfl (by simp),dLd (x:=q.den) rfl,qz,Zab (by omega),yj.r6_1,yj.oK];simp only [zY];rw [zB,yj.v10,zD,zE];rw [<- e1];exact fin _
   .rw [Zab (by omega)];simp only [jD,zda];rw [yj.r6_1,yj.oK];simp only [yB];rw [zB,yj.v10,zD,zE];exact fin _
 rw [zA,zA,yj.zo,sFx,H2.load (k:=0) (i:=0+0) rfl rfl,zB,yj.v9];by_cases c:b<0
 .rw [Zac c,zC,yj.yw,H2.zm (k:=1) (n:=2) rfl rfl,H2.zm (k:=0) (n:=2) rfl rfl];have hma:Z9 k (-a):=by unfold Z9 at *;omega
  have hmb:Z9 k (-b):=by unfold Z9 at *;omega
  rw [<- xX a,<- xX b];refine zg7 (by omega) ha _ _ _ _ ?_;rintro _ rfl _;rw [H2.zm (k:=0) (n:=2) rfl rfl,<- xX b,zH];refine zg7 (by omega) hb _ _ _ _ ?_;rintro _ rfl _;refine H2.jh (l2:=[.bool (decide (-a<0)),bq (dg 1000000000 (-a).natAbs)]) (k:=1) rfl rfl rfl λh3 H3 => ?_;refine H3.jh (l2:=[.bool (decide (-b<0)),bq (dg 1000000000 (-b).natAbs)]) (k:=0) rfl rfl rfl λh4 H4 => ?_;exact tail hma hmb (by omega) (by omega) (by rw [Rat.neg_divInt_neg];exact hK) H4
 .rw [Zab c,zD,zE];exact tail ha hb (by omega) hbN hK (by rw [Zab c] at H2 ⊢;exact H2)
theorem zty {n:Nat} (h:xk n 1=[48]):n=0:=by
 have hlt:=ztr (n:=n) (k:=1) (by rw [h];simp);rcases Zgl n with e | e
 .exact e
 .exfalso
  have hd:dg 10 n=[n]:=by
   rw [qJ (by decide) (by omega),show n / 10=0 by omega,gN,show n%10=n by omega]
  unfold xk at h;rw [mL (by omega),hd] at h;have:∀ n<10,0<n->dch n≠48:=by decide +kernel
  exact this n (by omega) e (by simpa using h)
theorem aQ {q:Rat}:ql q=[48]↔q=0:=by
 constructor
 .intro h;have hd1:=m5 q.num.natAbs;have hlen:=congrArg List.length h;rw [dZ] at h hlen;by_cases d:q.num<0
  .rw [if_pos d] at h;have:=congrArg List.head? h;simp at this
  .rw [if_neg d,Zbk] at h hlen;unfold sj at h hlen;by_cases c:q.den=1
   .rw [if_pos c,Zba] at h;have:=zty h;exact Zcr.1 (by omega)
   .rw [if_neg c] at hlen;simp at hlen;omega
 .rintro rfl;rw [ql,if_pos (show (0:Rat).den=1 from rfl),Zba];show fC 0=[48];rw [fC,if_neg (by decide)];exact cA
theorem zwm {a b:List UInt8} {K:AV->OP}:za .eql .str (.str a) (.str b) K=K (.bool (decide (a=b))):=by
 have e:za .eql .str (.str a) (.str b) K=K (.bool (gO a b)):=nr rfl;rw [e];by_cases c:a=b
 .rw [Zac c,fE.2 c]
 .rw [Zab c];cases q:gO a b with
  | true=>exact absurd (fE.1 q) c
  | false=>rfl
theorem zb7 {q:Rat} (d:q.num<0):ql q=45::sj q:=by rw [dZ,if_pos d];rfl
theorem zhj {q:Rat} (d:¬ q.num<0):ql q=sj q/\∃ c,(ql q)[0]? = some c/\c≠45:=by
 have hd1:=m5 q.num.natAbs;have hcut:ql q=sj q:=by rw [dZ,if_neg d];rfl
 have hc0:=Zgv (l:=xk q.num.natAbs 1) (i:=0) (by omega);exact ⟨hcut,_,by rw [hcut,sj,Zhb (by omega),hc0],(pG (Zad hc0)).2⟩
theorem zdo (q:Rat):1<=(ql q).length:=by
 have hd1:=m5 q.num.natAbs;rw [dZ,sj,Zae,Zae];omega
theorem zkt {q:Rat} (hl:(ql q).length<=1000000):Pure Tryz.prog B 255 [.str (ql q)] (· = I (uG q.num)):=by
 refine zT λh nx K H0 hK=>zL zN yC 100 λhf => ?_;have l1:=zdo q;rw [qa.go,qa.t15,zA,qa.zu,zA,zA,qa.zo,zwm,zB,qa.v2];by_cases c:q=0
 .rw [Zac (aQ.2 c),zC,zA,qa.yw];simp only [zF,zO];rw [qa.ret];exact hK _ _ _ _ _ H0 (zS rfl) (by rw [c];rfl)
 .have hn:q.num≠0:=λe=>c (Zcr.1 e);rw [Zab (λe=>c (aQ.1 e)),zD,zE,zA,zA,qa.uy,aL,pz,Zac (by omega)];simp only [yL];by_cases d:q.num<0
  .have e0:(ql q)[0]? = some 45:=by rw [zb7 d];rfl
   rw [tIdx (i:=0) (x:=0) rfl e0,qz];simp only [zY];rw [show decide (((45:UInt8).toNat:Int)=45)=true from rfl,zB,qa.v3,zC,zA,qa.fF];simp only [zF,zO];rw [qa.ret];exact hK _ _ _ _ _ H0 (zS rfl) (by unfold uG;rw [if_pos d])
  .obtain ⟨_,c',e0,hne⟩:=zhj d
   have hne2:¬ ((c'.toNat:Int)=45):=λh=>hne (by
    have e:(45:UInt8).toNat=45:=rfl;have:c'.toNat=(45:UInt8).toNat:=by omega
    exact UInt8.toNat_inj.1 this)
   rw [tIdx (i:=0) (x:=0) rfl e0,qz];simp only [zY];rw [Zab hne2,zB,qa.v3,zD,zE,zA,qa.xu];simp only [zF,zO];rw [qa.ret];exact hK _ _ _ _ _ H0 (zS rfl) (by unfold uG;rw [if_neg d,if_pos (by omega)])
theorem zhk (q:Rat):sj (-q)=sj q:=by unfold sj;rw [Zfs,Rat.neg_den,Zdz]
theorem zq2 {q:Rat} (hl:(ql q).length<=900000):Pure Tryz.prog B 189 [.str (ql q)] (· = .str (ql (-q))):=by
 refine zT λh nx K H0 hK=>zL zN yC 100 λhf => ?_;have l1:=zdo q;rw [qf.go,qf.t15,zA,qf.zu,zA,zA,qf.zo];refine zkt (by omega) _ _ _ _ ?_;rintro _ rfl _;rw [jf,zB,qf.v2];by_cases d:q.num<0
 .rw [Zac (by unfold uG;rw [if_pos d];decide),zC,zA,qf.yw,zb1 (a:=1) (x:=1) rfl l1,zb7 d];simp only [zF,zO];rw [qf.ret];exact hK _ _ _ _ _ H0 (zS rfl) (by rw [dZ (-q),if_neg (by rw [Zfs];omega),zhk];rfl)
 .rw [Zab (by unfold uG;rw [if_neg d];split <;> decide),zD,zE,zA,zA,qf.uy];refine zkt (by omega) _ _ _ _ ?_;rintro _ rfl _;rw [qz,zB,qf.v3];by_cases c:q.num=0
  .have hq:=Zcr.1 c;rw [Zac (by unfold uG;rw [if_neg d,if_neg (by omega)]),zC,zA,qf.fF];simp only [zF,zO];rw [qf.ret];exact hK _ _ _ _ _ H0 (zS rfl) (by rw [hq];rfl)
  .rw [Zab (by unfold uG;rw [if_neg d,if_pos (by omega)];decide),zD,zE,zA,qf.xu,tCat (by simp;omega)];simp only [zF,zO];rw [qf.ret];exact hK _ _ _ _ _ H0 (zS rfl) (by rw [(zhj d).1,zb7 (by rw [Zfs];omega),zhk];rfl)
theorem Qd.neg {q:Rat} (h:Qd q):Qd (-q):=⟨by rw [Zfs,Zdz];exact h.1,by rw [Rat.neg_den];exact h.2⟩
theorem Qd.z9 {q:Rat} (h:Qd q):Z9 1 q.num/\Z9 1 (q.den:Int):=⟨by unfold Z9;exact h.1,by unfold Z9;rw [Zbo];exact h.2⟩
theorem Qd.txt {q:Rat} (h:Qd q):(ql q).length<=100:=by
 have l1:=xL h.z9.1;have l2:=xL h.z9.2;unfold ql;rw [Zae];split <;> simp <;> omega
theorem zq3 {p q:Rat} (hp:Qd p) (hq:Qd q):Pure Tryz.prog B 99 [.str (ql p),.str (ql q)] (· = .str (ql (p-q))):=by
 refine zT λh nx K H0 hK=>zL zN yC 100 λhf => ?_;have tq:=hq.txt;rw [F99.go,F99.t3,zA,F99.zu,zA,F99.zo];refine zq2 (by omega) _ _ _ _ ?_;rintro _ rfl _;refine zys hp hq.neg _ _ _ _ ?_;rintro _ rfl _;simp only [zF,zO];rw [F99.ret];exact hK _ _ _ _ _ H0 (zS rfl) (by rw [Zfj])
theorem zcu {p:Rat} (hp:Qd p) (h0:p≠0):Pure Tryz.prog B 203 [.str (ql p)] (· = .str (ql p⁻¹)):=by
 refine zT λh nx K H0 hK=>zL zN yC 100 λhf => ?_;rw [fP.go,fP.t5,zA,fP.zu,zA,fP.zo];refine zqv (k:=1) (by decide) hp.z9.1 hp.z9.2 _ _ _ _ ?_;rintro _ rfl _;rw [jB,jE];refine H0.alloc λp1 h1 nx1 H1 => ?_;refine H1.alloc λp2 h2 nx2 H2 => ?_;refine H2.jh (l2:=[.bool (decide (p.num<0)),bq (dg 1000000000 p.num.natAbs)]) (k:=1) rfl rfl rfl λh3 H3 => ?_;refine H3.jh (l2:=[.bool (decide ((p.den:Int)<0)),bq (dg 1000000000 (p.den:Int).natAbs)]) (k:=0) rfl rfl rfl λh4 H4 => ?_;rw [zA,fP.yw,H4.zm (k:=0) (n:=2) rfl rfl,H4.zm (k:=1) (n:=2) rfl rfl,<- xX,<- xX];refine zhi (k:=1) (by decide) hp.z9.2 hp.z9.1 (λe=>h0 (Zcr.1 e)) hp.1 _ _ _ _ ?_;rintro _ rfl _;simp only [zF,zO];rw [fP.ret];exact hK _ _ _ _ _ H4 (zS rfl) (by rw [<- Rat.inv_def])
theorem bU {q:Rat}:Pure Tryz.prog B 39 [.str (ql q)] (· = .bool (decide (q=0))):=by
 refine zT λh nx K H0 hK=>zL zN yC 100 λhf => ?_;rw [F39.go,F39.t3,zA,F39.zu,zA,F39.zo,zwm];simp only [zF,zO];rw [F39.ret];exact hK _ _ _ _ _ H0 (zS rfl) (by congr 1;exact decide_eq_decide.2 aQ)
abbrev T9 (q:Rat):AV:=.str (ql q)
def gU (l:List Rat):AV:=.lst 1 l.length (l.map T9)
def jK (M:List (List Rat)):AV:=.lst 1 M.length (M.map gU)
def rv9 (w:Nat) (r:Pa):AV:=.sl r 0 w none 1
def jU (rs:List Pa) (M:List (List Rat)):List Ob:=List.zipWith (λr l=>Ob.arr r (l.map T9)) rs M
theorem vT {rs:List Pa} {M:List (List Rat)} {r:Pa} {l:List Rat} (h:rs.length=M.length):jU (rs++[r]) (M++[l])=jU rs M++[.arr r (l.map T9)]:=by
 unfold jU;rw [List.zipWith_append h];rfl
theorem ztz (l:List Rat):(l.map T9).all qb=true:=by simp [Zaw,qb]
theorem zq4 {M:List (List Rat)} {w:Nat} {h0 h:T Blk} {nx p0:Pa} {K:Kw Prop} (H0:Hp h0 h nx []) (hw:1<=w) (hws:w<=1000000) (hM:∀ l∈M,l.length=w) (hMs:M.length<=100000)
  (hK:∀ (o:Option Pa) (rs:List Pa) (h':T Blk) (nx':Pa),rs.length=M.length->Hp h0 h' nx' (.gro o 1 M.length (rs.map (rv9 w))::jU rs M)->K (uw o 1 M.length) h' nx'=.ok True) :
  (CS Tryz.prog B).fn 256 p0 [jK M] h nx K=.ok True:=by
 refine gT (p:=.of 256) (K:=K) (zL zN yC 100010 λhf => ?_) λ_ _ _ _ q=>q;rw [uj.go,uj.t18,zA,uj.zu,zA,uj.zo,zA,zA,uj.yw,zI];refine uj.zac (λm x2 x3 h' nx'=>∃ (i:Nat) (o:Option Pa) (rs:List Pa),x2=uw o 1 i/\x3=I (i:Int)/\m+i=M.length/\rs.length=i/\Hp h0 h' nx' (.gro o 1 i (rs.map (rv9 w))::jU rs (M.take i))) (m:=M.length) (by omega) ⟨0,none,[],rfl,rfl,rfl,rfl,H0.ax 1⟩ ?_;rintro m z2 z3 z4 h3 nx3 R ⟨i,o,rs,rfl,rfl,hm,hrs,H3⟩ hR;rw [uj.t10,zA,zA,uj.vk,jK,zW,jf];by_cases c:i<M.length
 .have er:=Zgv c;have hl:=hM M[i] (Zat c);have qb2:(M.map gU)[i]? = some (gU M[i]):=by rw [Zgx,er];rfl
  rw [Zac (by omega),zB,uj.v4,zC,zE,zA,zI,uj.uy];refine H3.fq (l:=[]) rfl λe h4 nx4 H4 => ?_;rw [cu (i:=i) rfl c,ldL qb2];refine H4.appE (new:=M[i].map T9) (c:=w) (λno K'=>by rw [gU,hl];rfl) (by simp [hl]) (ztz _) (by decide) hw hws λid h5 nx5 H5 => ?_;have H6:=H5.oQ.perm (.swap _ _ _);refine H6.oH (v:=rv9 w id) (by omega) (by decide) rfl rfl λo' h7 nx7 H7 => ?_;rw [uj.fU,jo (by omega)];refine hR (m-1) _ _ _ _ _ (by omega) ⟨i+1,o',rs++[id],rfl,by congr 1,by omega,by simp [hrs],?_⟩;have ht:M.take (i+1)=M.take i++[M[i]]:=by rw [Zaq,er];rfl
  rw [ht,vT (by rw [Zai];omega),Zbh];exact H7.perm ((Zdk _ _).symm.cons _)
 .obtain rfl:i=M.length:=by omega
  rw [Zak (by omega)] at H3;rw [Zab (by omega),zB,uj.v4,zD,zX,yD,zA,uj.rG];simp only [zF,zO];rw [uj.ret];exact hK o rs _ _ hrs H3
def zku (c:UInt8):Nat:=c.toNat-48
theorem zmq {x:Nat} (h:x<10):zku (dch x)=x:=by unfold zku;rw [ze4 h];omega
theorem zhl (n w:Nat):bv 10 ((xk n w).map zku).reverse=n:=by
 have e:((xk n w).map zku).reverse=rT n w:=by
  unfold xk;rw [List.map_map,<- List.map_reverse,Zeu]
  conv=>rhs;rw [<- List.map_id (rT n w)]
  exact Zee λx hx=>zmq (vB n w x hx)
 rw [e,mM]
theorem zhm {n m w:Nat} (h:xk n w=xk m w):n=m:=by rw [<- zhl n w,h,zhl]
theorem zhn {a b:Int} (h:fC a=fC b):a=b:=by
 have key:∀ {a b:Int},a<0->¬ b<0->fC a≠fC b:=λ{a b} h1 h2 e=>by
  unfold fC at e;rw [if_pos h1,if_neg h2,Zbk] at e;have hm:(45:UInt8)∈xk b.natAbs 1:=by rw [<- e];simp
  exact (pG hm).2 rfl
 by_cases h1:a<0
 .by_cases h2:b<0
  .unfold fC at h;rw [if_pos h1,if_pos h2] at h;have:=zhm (List.append_cancel_left h);omega
  .exact absurd h (key h1 h2)
 .by_cases h2:b<0
  .exact absurd h.symm (key h2 h1)
  .unfold fC at h;rw [if_neg h1,if_neg h2,Zbk,Zbk] at h;have:=zhm h;omega
theorem qb3 {a b c d:List UInt8} (ha:∀ x∈a,x≠47) (hb:∀ x∈b,x≠47) (hc:c=[]\/∃ l,c=47::l) (hd:d=[]\/∃ l,d=47::l) (h:a++c=b++d):a=b/\c=d:=by
 have tw:∀ {a c:List UInt8},(∀ x∈a,x≠47)->(c=[]\/∃ l,c=47::l)->(a++c).takeWhile (· != 47)=a:=λ{a c} ha hc=>by
  rw [List.takeWhile_append_of_pos λx hx=>by simpa using ha x hx];rcases hc with rfl | ⟨l,rfl⟩ <;> simp
 have e:=congrArg (List.takeWhile (· != 47)) h;rw [tw ha hc,tw hb hd] at e;subst e;exact ⟨rfl,List.append_cancel_left h⟩
theorem zq5 {p q:Rat} (h:ql p=ql q):p=q:=by
 unfold ql at h;have sh:∀ q:Rat,(if q.den=1 then [] else 47::fC (q.den:Int))=[]\/∃ l,(if q.den=1 then [] else 47::fC (q.den:Int))=47::l:=λq=>by
  split
  .exact .inl rfl
  .exact .inr ⟨_,rfl⟩
 obtain ⟨h1,h2⟩:=qb3 (λx hx=>d9 hx) (λx hx=>d9 hx) (sh p) (sh q) h;refine Rat.ext (zhn h1) ?_;split at h2 <;> split at h2
 .omega
 .cases h2
 .cases h2
 .have:=zhn (List.cons.inj h2).2;omega
theorem zyt {a b:List UInt8} {K:AV->OP}:za .neq .str (.str a) (.str b) K=K (.bool (!decide (a=b))):=by
 have e:za .neq .str (.str a) (.str b) K=K (.bool (!gO a b)):=nr rfl;rw [e];by_cases c:a=b
 .rw [Zac c,fE.2 c]
 .rw [Zab c];cases q:gO a b with
  | true=>exact absurd (fE.1 q) c
  | false=>rfl
theorem zb8 {p q:List Rat} (hp:p.length<=1000000):Pure Tryz.prog B 29 [gU p,gU q] (· = .bool (decide (p=q))):=by
 refine zT λh nx K H0 hK=>zL zN yC 1000010 λhf => ?_;have ret:∀ {b:Bool},b=decide (p=q)->K (.bool b) h nx=.ok True:=λe=>hK _ _ _ _ _ H0 (zS rfl) (by rw [e]);rw [F29.go,F29.t26,zA,F29.zu,zA,zA,F29.zo,gU,gU,zW,zW,fB,zB,F29.v4];by_cases c:p.length=q.length
 case neg =>
  rw [Zab (by omega),Zam,zC,zA,F29.yw];simp only [zF,zO];rw [F29.ret];exact ret (Zab λe=>c (by rw [e])).symm
 rw [Zac (by omega),Zao,zD,zE,zA,zA,F29.uy,zI];refine F29.zfu (λm x3 h' nx'=>∃ i:Nat,x3=I (i:Int)/\m+i=p.length/\p.take i=q.take i/\h'=h/\nx'=nx) (m:=p.length) (by omega) ⟨0,rfl,rfl,rfl,rfl,rfl⟩ ?_;rintro m z2 z3 z5 z6 h3 nx3 R ⟨i,rfl,hm,ht,rfl,rfl⟩ hR;rw [F29.t18,zA,zA,F29.fF,zW,jf,zB,F29.v5];by_cases ci:i<p.length
 .have ep:=Zgv ci;have eq:=Zgv (show i<q.length by omega);have e1:(p.map T9)[i]? = some (T9 p[i]):=by rw [Zgx,ep];rfl
  have e2:(q.map T9)[i]? = some (T9 q[i]):=by rw [Zgx,eq];rfl
  rw [Zac (by omega),zC,zE,zA,zI,zA,F29.ny,cu (i:=i) rfl ci,ldL e1,cu (i:=i) rfl (by omega),ldL e2,zyt,zB,F29.v6];by_cases d:p[i]=q[i]
  .rw [Zac (by rw [d]),Zao,zD,zE,F29.sw,jo (by omega)];refine hR (m-1) _ _ _ _ _ _ (by omega) ⟨i+1,by congr 1,by omega,?_,rfl,rfl⟩;rw [Zaq,Zaq,ep,eq,ht,d]
  .rw [Zab (λe=>d (zq5 e)),Zam,zC,zA,F29.xu];simp only [zF,vI,zO];rw [F29.ret];refine ret (Zab λe=>d ?_).symm;subst e
   rfl
 .rw [Zab (by omega),zD,zX,yD,zA,F29.tO];simp only [zF,zO];rw [F29.ret];rw [Zak (by omega),Zak (by omega)] at ht;exact ret (Zac ht).symm
theorem ze6 {p q:List (List Rat)} (hp:p.length<=1000000) (hw:∀ l∈p,l.length<=1000000):Pure Tryz.prog B 25 [jK p,jK q] (· = .bool (decide (p=q))):=by
 refine zT λh nx K H0 hK=>zL zN yC 1000010 λhf => ?_;have ret:∀ {b:Bool},b=decide (p=q)->K (.bool b) h nx=.ok True:=λe=>hK _ _ _ _ _ H0 (zS rfl) (by rw [e]);rw [F25.go,F25.t26,zA,F25.zu,zA,zA,F25.zo,jK,jK,zW,zW,fB,zB,F25.v4];by_cases c:p.length=q.length
 case neg =>
  rw [Zab (by omega),Zam,zC,zA,F25.yw];simp only [zF,zO];rw [F25.ret];exact ret (Zab λe=>c (by rw [e])).symm
 rw [Zac (by omega),Zao,zD,zE,zA,zA,F25.uy,zI];refine F25.zfu (λm x3 h' nx'=>∃ i:Nat,x3=I (i:Int)/\m+i=p.length/\p.take i=q.take i/\h'=h/\nx'=nx) (m:=p.length) (by omega) ⟨0,rfl,rfl,rfl,rfl,rfl⟩ ?_;rintro m z2 z3 z5 z6 h3 nx3 R ⟨i,rfl,hm,ht,rfl,rfl⟩ hR;rw [F25.t18,zA,zA,F25.fF,zW,jf,zB,F25.v5];by_cases ci:i<p.length
 .have ep:=Zgv ci;have eq:=Zgv (show i<q.length by omega);have e1:(p.map gU)[i]? = some (gU p[i]):=by rw [Zgx,ep];rfl
  have e2:(q.map gU)[i]? = some (gU q[i]):=by rw [Zgx,eq];rfl
  rw [Zac (by omega),zC,zE,zA,zI,zA,F25.ny,cu (i:=i) rfl ci,ldL e1,cu (i:=i) rfl (by omega),ldL e2];refine zb8 (hw _ (Zat ci)) _ _ _ _ ?_;rintro _ rfl _;rw [jH,zB,F25.v6];by_cases d:p[i]=q[i]
  .rw [Zac d,Zao,zD,zE,F25.sw,jo (by omega)];refine hR (m-1) _ _ _ _ _ _ (by omega) ⟨i+1,by congr 1,by omega,?_,rfl,rfl⟩;rw [Zaq,Zaq,ep,eq,ht,d]
  .rw [Zab d,Zam,zC,zA,F25.xu];simp only [zF,vI,zO];rw [F25.ret];refine ret (Zab λe=>d ?_).symm;subst e
   rfl
 .rw [Zab (by omega),zD,zX,yD,zA,F25.tO];simp only [zF,zO];rw [F25.ret];rw [Zak (by omega),Zak (by omega)] at ht;exact ret (Zac ht).symm
theorem kA {rs:List Pa} {M:List (List Rat)} {y:Nat} {r:Pa} {l:List Rat} (hr:rs[y]? = some r) (hl:M[y]? = some l):(jU rs M)[y]? = some (.arr r (l.map T9)):=by
 unfold jU;rw [Zhh,hr,hl]
theorem zb9:∀ {rs:List Pa} {M:List (List Rat)} {y:Nat} {r:Pa} {l:List Rat},rs[y]? = some r->(jU rs M).set y (.arr r (l.map T9))=jU rs (M.set y l)
 | [],_,_,_,_,h=>by simp at h
 | _::_,[],y,_,_,_=>by simp [jU]
 | a::rs,m::M,0,r,l,h=>by
  simp at h;subst h
  rfl
 | a::rs,m::M,y+1,r,l,h=>by
  have:=zb9 (rs:=rs) (M:=M) (y:=y) (r:=r) (l:=l) (by simpa using h);unfold jU at this ⊢;simp only [Zft,Zfk];rw [this]
theorem pE {α:Type} {a b:List α} {i:Nat} {x:α} (h:a[i]? = some x):(a++b)[i]? = some x:=by
 rw [Zhb (Zgw.1 h).1];exact h
def PM (h0 h:T Blk) (nx tid:Pa) (rs:List Pa) (w:Nat) (L:List Ob) (M:List (List Rat)):Prop :=
 rs.length=M.length/\(∀ l∈M,l.length=w)/\Hp h0 h nx (.arr tid (rs.map (rv9 w))::(jU rs M++L))
theorem PM.tab {h0 h:T Blk} {nx tid:Pa} {rs:List Pa} {L:List Ob} {w:Nat} {M:List (List Rat)} (H:PM h0 h nx tid rs w L M) {y:Nat} (hy:y<M.length):∃ r,rs[y]? = some r/\∀ op:AV->OP,zG (.ptr tid y) h op=op (rv9 w r):=by
 obtain ⟨h1,_,h3⟩:=H;refine ⟨rs[y],Zgv (by omega),λop => ?_⟩;exact h3.load (k:=0) rfl (by rw [Zgx,Zgv (show y<rs.length by omega)];rfl)
theorem PM.cell {h0 h:T Blk} {nx tid:Pa} {rs:List Pa} {L:List Ob} {w:Nat} {M:List (List Rat)} (H:PM h0 h nx tid rs w L M) {y c:Nat} {r:Pa} {l:List Rat} {q:Rat} (hr:rs[y]? = some r) (hl:M[y]? = some l) (hq:l[c]? = some q) (op:AV->OP):zG (.ptr r c) h op=op (T9 q) :=
 H.2.2.load (k:=y+1) (by rw [Zhl];exact pE (kA hr hl)) (by rw [Zgx,hq];rfl)
theorem PM.put {h0 h:T Blk} {nx tid:Pa} {rs:List Pa} {L:List Ob} {w:Nat} {M:List (List Rat)} (H:PM h0 h nx tid rs w L M) {y c:Nat} {r:Pa} {l:List Rat} {q:Rat} {K:Kw Prop} (hr:rs[y]? = some r) (hl:M[y]? = some l) (hc:c<l.length)
  (hK:∀ h',PM h0 h' nx tid rs w L (M.set y (l.set c q))->K .u h' nx=.ok True):zV 1 (.ptr r c) (T9 q) h nx K=.ok True:=by
 obtain ⟨h1,h2,h3⟩:=H;have hy:=(Zgw.1 hl).1;refine h3.store (k:=y+1) (by rw [Zhl];exact pE (kA hr hl)) (by simpa using hc) rfl λh' H'=>hK h' ⟨by rw [Zan];exact h1,λl' hl' => ?_,?_⟩
 .rcases Zbc hl' with e | e
  .exact h2 _ e
  .rw [e,Zan];exact h2 _ (Zad hl)
 .have hyl:=(Zgw.1 (kA hr hl)).1;rw [Zfk,<- Zer,List.set_append_left _ _ hyl,zb9 hr] at H';exact H'
theorem zho {l:List Rat} {s:Rat} {c:Nat} {q:Rat} (hq:l[c]? = some q):((l.take c).map (· * s)++l.drop c).set c (q*s)=(l.take (c+1)).map (· * s)++l.drop (c+1):=by
 have hc:=(Zgw.1 hq).1;have e:l.drop c=q::l.drop (c+1):=by
  rw [Zgv hc] at hq;rw [Zbb hc,Option.some.inj hq]
 rw [e,dU (by rw [Zah,Zai];omega),Zaq,hq];simp
theorem zjh {l:List Rat} {s:Rat} {c:Nat} {q:Rat} (hq:l[c]? = some q):((l.take c).map (· * s)++l.drop c)[c]? = some q:=by
 have hc:=(Zgw.1 hq).1;rw [Zgy (by rw [Zah,Zai];omega),Zah,Zai,Zhf,show c+(c-min c l.length)=c by omega];exact hq
theorem zyu {M:List (List Rat)} {l:List Rat} {tid:Pa} {rs:List Pa} {L:List Ob} {w y N:Nat} {s:Rat} {h0 h:T Blk} {nx:Pa} {O:fK Prop} {Kf K2:Ks Prop} {x1 x2 x3 x4 x5 x9 x10 x11 x12 x13 x14 x15 x16 x17 x18:AV}
  (H:PM h0 h nx tid rs w L M) (hl:M[y]? = some l) (hM:M.length<=100000) (hw:w<=100000) (hN:100010<=N) (hs:Qd s) (hq:∀ q∈l,Qd q)
  (hK:∀ (h':T Blk) (x15:AV),PM h0 h' nx tid rs w L (M.set y (l.map (· * s)))->Kf (ze.fr (.sl tid 0 M.length none 1) x1 x2 x3 x4 x5 (I (y:Int)) (.str (ql s)) (I (w:Int)) x9 x10 x11 x12 x13 x14 x15 x16 x17 x18) h' nx=.ok True) :
  IR.run ze.t31 (CS Tryz.prog B) N (O.blk 4 Kf) K2 (ze.fr (.sl tid 0 M.length none 1) x1 x2 x3 x4 x5 (I (y:Int)) (.str (ql s)) (I 0) x9 x10 x11 x12 x13 x14 x15 x16 x17 x18) h nx=.ok True:=by
 have hy:=(Zgw.1 hl).1;have hlw:=H.2.1 l (Zad hl)
 refine ze.zfm (λm x8 h' nx'=>∃ c:Nat,x8=I (c:Int)/\m+c=w/\nx'=nx/\PM h0 h' nx tid rs w L (M.set y ((l.take c).map (· * s)++l.drop c))) (m:=w) (by omega) ⟨0,rfl,rfl,rfl,by
  have e:M.set y ((l.take 0).map (· * s)++l.drop 0)=M:=by
   simp only [Zdr,List.map_nil,Zbk,Zcq];refine Zbu λi => ?_;rw [Zhn];split
   .rename_i e;subst e;rw [hl]
   .rfl
  rw [e];exact H⟩ ?_
 rintro m z8 z15 h3 nx3 R ⟨c,rfl,hm,rfl,H3⟩ hR;have hy3:y<(M.set y ((l.take c).map (· * s)++l.drop c)).length:=by rw [Zan];exact hy
 have hMl:(M.set y ((l.take c).map (· * s)++l.drop c)).length=M.length:=Zan;have hrow:(M.set y ((l.take c).map (· * s)++l.drop c))[y]? = some ((l.take c).map (· * s)++l.drop c):=by rw [Zhc hy]
 obtain ⟨r,hr,ht⟩:=H3.tab hy3;rw [ze.t30,zA,zA,ze.zm7,sIx (i:=y) rfl hy,ht,rv9,yI,jf,zB,ze.v15];by_cases ci:c<w
 .have hc:l[c]? = some l[c]:=Zgv (by omega);have hcell:=λop=>H3.cell hr hrow (zjh hc) op;rw [Zac (by omega),zC,zE,zA,zI,ze.zzc,sIx (i:=y) rfl hy,ht,sIx (i:=y) rfl hy,ht,rv9,sIx (i:=c) rfl ci,hcell];refine zq1 (hq _ (Zat (by omega))) hs _ _ _ _ ?_;rintro _ rfl _;rw [zH,ht,rv9,zH,sIx (i:=y) rfl hy];simp only [zH];rw [sIx (i:=c) rfl ci];refine H3.put (q:=l[c]*s) hr hrow (by rw [Zae,Zah,Zai,Zcp];omega) λh4 H4 => ?_;rw [Zcx,zho hc] at H4;rw [ze.om,jo (by omega)];exact hR (m-1) _ _ _ _ (by omega) ⟨c+1,by congr 1,by omega,rfl,H4⟩
 .obtain rfl:c=w:=by omega
  rw [Zak (by omega),Zbi (by omega),Zba] at H3;rw [Zab (by omega),zD,zX,yD];exact hK _ _ H3
def wQ (f:Rat) (a b:List Rat):List Rat:=List.zipWith (λx y=>x-f*y) a b
theorem zca {M:List (List Rat)} {y:Nat} {l:List Rat} (hl:M[y]? = some l):M.set y l=M:=by
 have hy:=(Zgw.1 hl).1;refine Zbu λi => ?_;rw [Zhn];split
 .rename_i e;subst e;rw [hl]
 .rfl
theorem zq6 {l e:List Rat} {c:Nat} {q:Rat} (hle:e.length=l.length) (hq:l[c]? = some q):(e.take c++l.drop c)[c]? = some q:=by
 have hc:=(Zgw.1 hq).1;rw [Zgy (by rw [Zai];omega),Zai,Zhf,show c+(c-min c e.length)=c by omega];exact hq
theorem zmr {l e:List Rat} {c:Nat} {q:Rat} (hle:e.length=l.length) (hq:e[c]? = some q):(e.take c++l.drop c).set c q=e.take (c+1)++l.drop (c+1):=by
 have hc:=(Zgw.1 hq).1;rw [Zbb (show c<l.length by omega),dU (by rw [Zai];omega),Zaq,hq];simp
theorem qb4 {M:List (List Rat)} {ly lr:List Rat} {tid:Pa} {rs:List Pa} {L:List Ob} {w y r N:Nat} {f:Rat} {h0 h:T Blk} {nx:Pa} {O:fK Prop} {Kf K2:Ks Prop} {x1 x2 x3 x4 x5 x7 x8 x12 x13 x14 x15 x16 x17 x18:AV}
  (H:PM h0 h nx tid rs w L M) (hly:M[y]? = some ly) (hlr:M[r]? = some lr) (hyr:y≠r) (hM:M.length<=100000) (hw:w<=100000) (hN:100010<=N) (hf:Qd f) (hqy:∀ q∈ly,Qd q) (hqr:∀ q∈lr,Qd q) (hqp:∀ q∈lr,Qd (f*q))
  (hK:∀ (h':T Blk) (x18:AV),PM h0 h' nx tid rs w L (M.set y (wQ f ly lr))->Kf (ze.fr (.sl tid 0 M.length none 1) x1 x2 x3 x4 x5 (I (r:Int)) x7 x8 (I (y:Int)) (.str (ql f)) (I (w:Int)) x12 x13 x14 x15 x16 x17 x18) h' nx=.ok True) :
  IR.run ze.t51 (CS Tryz.prog B) N (O.blk 8 Kf) K2 (ze.fr (.sl tid 0 M.length none 1) x1 x2 x3 x4 x5 (I (r:Int)) x7 x8 (I (y:Int)) (.str (ql f)) (I 0) x12 x13 x14 x15 x16 x17 x18) h nx=.ok True:=by
 have hy:=(Zgw.1 hly).1;have hr0:=(Zgw.1 hlr).1;have hlw:=H.2.1 ly (Zad hly);have hlw2:=H.2.1 lr (Zad hlr);have hE:(wQ f ly lr).length=ly.length:=by unfold wQ;rw [Zdo];omega
 refine ze.zzg (λm x11 h' nx'=>∃ c:Nat,x11=I (c:Int)/\m+c=w/\nx'=nx/\PM h0 h' nx tid rs w L (M.set y ((wQ f ly lr).take c++ly.drop c))) (m:=w) (by omega) ⟨0,rfl,rfl,rfl,by
  rw [Zdr,Zbk,Zcq,zca hly];exact H⟩ ?_
 rintro m z11 z18 h3 nx3 R ⟨c,rfl,hm,rfl,H3⟩ hR;have hl3:(M.set y ((wQ f ly lr).take c++ly.drop c)).length=M.length:=Zan;have hrow:(M.set y ((wQ f ly lr).take c++ly.drop c))[y]? = some ((wQ f ly lr).take c++ly.drop c):=by rw [Zhc hy]
 have hrow2:(M.set y ((wQ f ly lr).take c++ly.drop c))[r]? = some lr:=by rw [Zhd hyr];exact hlr
 obtain ⟨ry,hry,hty⟩:=H3.tab (y:=y) (by omega);obtain ⟨rr,hrr,htr⟩:=H3.tab (y:=r) (by omega);rw [ze.t50,zA,zA,ze.znb,sIx (i:=y) rfl hy,hty,rv9,yI,jf,zB,ze.v18];by_cases ci:c<w
 .have hc:ly[c]? = some ly[c]:=Zgv (by omega);have hc2:lr[c]? = some lr[c]:=Zgv (by omega);have hce:(wQ f ly lr)[c]? = some (ly[c]-f*lr[c]):=by unfold wQ;rw [Zhh,hc,hc2]
  have cy:=λop=>H3.cell hry hrow (zq6 hE hc) op;have cr:=λop=>H3.cell hrr hrow2 hc2 op;have mr:=Zat (l:=lr) (n:=c) (by omega);rw [Zac (by omega),zC,zE,zA,zI,ze.znc,sIx (i:=y) rfl hy,hty,sIx (i:=y) rfl hy,hty,rv9,sIx (i:=c) rfl ci,cy,sIx (i:=r) rfl hr0,htr,rv9,sIx (i:=c) rfl ci,cr];refine zq1 hf (hqr _ mr) _ _ _ _ ?_;rintro _ rfl _;rw [cy,zH,sIx (i:=c) rfl ci];simp only [zH];rw [hty,rv9,zH,sIx (i:=y) rfl hy];simp only [zH];rw [hty,rv9,zH,sIx (i:=y) rfl hy];simp only [zH];refine zq3 (hqy _ (Zat (by omega))) (hqp _ mr) _ _ _ _ ?_;rintro _ rfl _;rw [hty,rv9,zH,sIx (i:=y) rfl hy];simp only [zH];rw [sIx (i:=c) rfl ci];refine H3.put (q:=ly[c]-f*lr[c]) hry hrow (by rw [Zae,Zai,Zcp];omega) λh4 H4 => ?_;rw [Zcx,zmr hE hce] at H4;rw [ze.zzf,jo (by omega)];exact hR (m-1) _ _ _ _ (by omega) ⟨c+1,by congr 1,by omega,rfl,H4⟩
 .obtain rfl:c=w:=by omega
  rw [Zak (by omega),Zbi (by omega),Zba] at H3;rw [Zab (by omega),zD,zX,yD];exact hK _ _ H3
def vE (r j:Nat) (lr:List Rat) (i:Nat) (l:List Rat):List Rat:=if i=r then l else wQ (l.getD j 0) l lr
def ay (r j:Nat) (lr:List Rat) (M:List (List Rat)):List (List Rat):=M.mapIdx (vE r j lr)
theorem zji {a b:List Rat} (h:a.length=b.length):wQ 0 a b=a:=by
 unfold wQ;refine Zbu λi => ?_;rw [Zhh];by_cases c:i<a.length
 .rw [Zgv c,Zgv (show i<b.length by omega)];simp only [Zbz,Zfj,Option.some.injEq];exact Rat.add_zero _
 .rw [Zha (show a.length<=i by omega)]
theorem zcb {r j:Nat} {lr:List Rat} {M:List (List Rat)} {i:Nat} {l:List Rat} (h:M[i]? = some l):(ay r j lr M)[i]? = some (vE r j lr i l):=by
 unfold ay;rw [List.getElem?_mapIdx,h];rfl
theorem zms {E M:List (List Rat)} {y:Nat} {l:List Rat} (hle:E.length=M.length) (hq:M[y]? = some l):(E.take y++M.drop y)[y]? = some l:=by
 have hc:=(Zgw.1 hq).1;rw [Zgy (by rw [Zai];omega),Zai,Zhf,show y+(y-min y E.length)=y by omega];exact hq
theorem zjj {E M:List (List Rat)} {y:Nat} {l:List Rat} (hle:E.length=M.length) (hq:E[y]? = some l):(E.take y++M.drop y).set y l=E.take (y+1)++M.drop (y+1):=by
 have hc:=(Zgw.1 hq).1;rw [Zbb (show y<M.length by omega),dU (by rw [Zai];omega),Zaq,hq];simp
theorem zmt {r j:Nat} {lr:List Rat} {M:List (List Rat)} {y:Nat} (hlr:M[r]? = some lr):((ay r j lr M).take y++M.drop y)[r]? = some lr:=by
 have hE:(ay r j lr M).length=M.length:=by unfold ay;rw [Zdl]
 have hr:=(Zgw.1 hlr).1;by_cases c:r<y
 .rw [Zhb (by rw [Zai];omega),Zhe c,zcb hlr,vE,if_pos rfl]
 .rw [Zgy (by rw [Zai];omega),Zai,Zhf,show y+(r-min y (ay r j lr M).length)=r by omega];exact hlr
theorem qb5 (op:KW3->OP) (h:T Blk) (nx:Pa) (k:KW3):sGW (.bool true) false op h nx k=k .u h nx:=nr rfl
theorem zyv (op:KW3->OP) (h:T Blk) (nx:Pa) (k:KW3):sGW (.bool false) false op h nx k=op k:=nr rfl
theorem zyw {M:List (List Rat)} {lr:List Rat} {tid:Pa} {rs:List Pa} {L:List Ob} {w r j N:Nat} {h0 h:T Blk} {nx:Pa} {O:fK Prop} {Kf K2:Ks Prop} {x1 x2 x3 x5 x7 x8 x10 x11 x12 x13 x14 x15 x16 x17 x18:AV}
  (H:PM h0 h nx tid rs w L M) (hlr:M[r]? = some lr) (hj:j<w) (hM:M.length<=100000) (hw:w<=100000) (hN:100010<=N) (hq:∀ l∈M,∀ q∈l,Qd q) (hqp:∀ l∈M,∀ q∈lr,Qd (l.getD j 0*q))
  (hK:∀ (h':T Blk) (x10 x11 x16 x17 x18:AV),PM h0 h' nx tid rs w L (ay r j lr M)->Kf (ze.fr (.sl tid 0 M.length none 1) x1 x2 x3 (I (j:Int)) x5 (I (r:Int)) x7 x8 (I (M.length:Int)) x10 x11 x12 x13 x14 x15 x16 x17 x18) h' nx=.ok True) :
  IR.run ze.t60 (CS Tryz.prog B) N (O.blk 6 Kf) K2 (ze.fr (.sl tid 0 M.length none 1) x1 x2 x3 (I (j:Int)) x5 (I (r:Int)) x7 x8 (I 0) x10 x11 x12 x13 x14 x15 x16 x17 x18) h nx=.ok True:=by
 have hr0:=(Zgw.1 hlr).1;have hlw2:=H.2.1 lr (Zad hlr);have hE:(ay r j lr M).length=M.length:=by unfold ay;rw [Zdl]
 refine ze.zzi (λm x9 h' nx'=>∃ y:Nat,x9=I (y:Int)/\m+y=M.length/\nx'=nx/\PM h0 h' nx tid rs w L ((ay r j lr M).take y++M.drop y)) (m:=M.length) (by omega) ⟨0,rfl,rfl,rfl,by
  rw [Zdr,Zbk,Zcq];exact H⟩ ?_
 rintro m z9 z10 z11 z16 z17 z18 h3 nx3 R ⟨y,rfl,hm,rfl,H3⟩ hR;have hl3:((ay r j lr M).take y++M.drop y).length=M.length:=by rw [Zae,Zai,Zcp];omega
 rw [ze.t59,zA,zA,ze.zzd,yI,jf,zB,ze.v16];by_cases cy:y<M.length
 case neg =>
  obtain rfl:y=M.length:=by omega
  rw [Zak (by omega),Zbi (by omega),Zba] at H3;rw [Zab (by omega),zD,zX,yD];exact hK _ _ _ _ _ _ H3
 have hly:M[y]? = some M[y]:=Zgv cy;have hmy:=Zat cy;have hlw:=H.2.1 _ hmy;have hrow:=zms hE hly;have hrow2:=zmt (j:=j) (y:=y) hlr;have hstep:=zjj hE (zcb (r:=r) (j:=j) (lr:=lr) hly);obtain ⟨ry,hry,hty⟩:=H3.tab (y:=y) (by omega);have hcj:M[y][j]? = some (M[y].getD j 0):=by
  rw [Zaa,Zgv (show j<M[y].length by omega)];rfl
 have hc:=λop=>H3.cell hry hrow hcj op;have next:∀ {h4:T Blk} {x10 x11 x16 x17 x18:AV},PM h0 h4 nx3 tid rs w L ((ay r j lr M).take (y+1)++M.drop (y+1))->ze.t57.run (CS Tryz.prog B) N (O.blk 6 Kf) R (ze.fr (.sl tid 0 M.length none 1) x1 x2 x3 (I (j:Int)) x5 (I (r:Int)) x7 x8 (I (y:Int)) x10 x11 x12 x13 x14 x15 x16 x17 x18) h4 nx3=.ok True:=by
  intro h4 x10 x11 x16 x17 x18 H4;rw [ze.zzh,jo (by omega)];exact hR (m-1) _ _ _ _ _ _ _ _ (by omega) ⟨y+1,by congr 1,by omega,rfl,H4⟩
 rw [Zac (by omega),zC,zE,zA,zI,zA,ze.zm9,sIx (i:=y) rfl cy,hty,rv9,sIx (i:=j) rfl hj,hc,zA,zA,ze.zze,qz];by_cases e:y=r
 .have hsame:vE r j lr y M[y]=M[y]:=by rw [vE,if_pos e]
  rw [hsame,zca hrow] at hstep;rw [hstep] at H3;rw [Zac (by omega)];simp only [j3];rw [qb5];simp only [zY];rw [zB,ze.v17,zC,zX,yD];exact next H3
 rw [Zab (by omega)];simp only [jG];rw [zyv];refine bU _ _ _ _ ?_;rintro _ rfl _;simp only [yB];have hclr:vE r j lr y M[y]=wQ (M[y].getD j 0) M[y] lr:=by rw [vE,if_neg e]
 rw [hclr] at hstep;by_cases z:M[y].getD j 0=0
 .rw [z,zji (by omega),zca hrow] at hstep;rw [hstep] at H3;rw [Zac z,zB,ze.v17,zC,zX,yD];exact next H3
 .rw [Zab z,zB,ze.v17,zD,zE,zA,ze.zna,zI,<- hl3];refine qb4 H3 hrow hrow2 e (by omega) hw hN (hq _ hmy _ (Zad hcj)) (hq _ hmy) (hq _ (Zad hlr)) (hqp _ hmy) λh4 x18 H4 => ?_;rw [hstep] at H4;rw [hl3];exact next H4
theorem zt0 {M:List (List Rat)} {tid:Pa} {rs:List Pa} {L:List Ob} {w r j N:Nat} {h0 h:T Blk} {nx:Pa} {O:fK Prop} {Kf K2:Ks Prop} {x1 x2 x3 x6 x7 x8 x9 x10 x11 x12 x13 x14 x15 x16 x17 x18:AV}
  (H:PM h0 h nx tid rs w L M) (hr:r<=M.length) (hj:j<w) (hM:M.length<=100000) (hN:100010<=N)
  (hK:∀ (i:Nat) (x13:AV),r<=i->i<=M.length->(∀ i' l,r<=i'->i'<i->M[i']? = some l->l.getD j 0=0)->(∀ l,M[i]? = some l->l.getD j 0≠0)->Kf (ze.fr (.sl tid 0 M.length none 1) x1 x2 x3 (I (j:Int)) (I (i:Int)) x6 x7 x8 x9 x10 x11 x12 x13 x14 x15 x16 x17 x18) h nx=.ok True) :
  IR.run ze.t14 (CS Tryz.prog B) N (O.blk 2 Kf) K2 (ze.fr (.sl tid 0 M.length none 1) x1 x2 x3 (I (j:Int)) (I (r:Int)) x6 x7 x8 x9 x10 x11 x12 x13 x14 x15 x16 x17 x18) h nx=.ok True:=by
 refine ze.zfp (λm x5 h' nx'=>∃ i:Nat,x5=I (i:Int)/\m+i=M.length/\r<=i/\(∀ i' l,r<=i'->i'<i->M[i']? = some l->l.getD j 0=0)/\h'=h/\nx'=nx) (m:=M.length-r) (by omega) ⟨r,rfl,by omega,Zaf _,λ_ _ a b=>by omega,rfl,rfl⟩ ?_;rintro m z5 z13 h3 nx3 R ⟨i,rfl,hm,hri,hz,rfl,rfl⟩ hR;rw [ze.t13,zA,zA,ze.fU,ze.r6_0,ze.zd3,yI,jf];by_cases c:i<M.length
 case neg =>
  rw [Zab (by omega)];simp only [jD];rw [ze.r6_1,ze.oK];simp only [jD];rw [zb6,ze.r6_2,ze.zm8];simp only [yB];rw [zB,ze.v13,zD,zX,yD];exact hK i _ hri (by omega) hz λl hl=>by rw [Zha (by omega)] at hl;cases hl
 have hly:M[i]? = some M[i]:=Zgv c;have hlw:=H.2.1 _ (Zat c);obtain ⟨ry,hry,hty⟩:=H.tab (y:=i) c;have hcj:M[i][j]? = some (M[i].getD j 0):=by
  rw [Zaa,Zgv (show j<M[i].length by omega)];rfl
 have hc:=λop=>H.cell hry hly hcj op;rw [Zac (by omega)];simp only [yL];rw [sIx (i:=i) rfl c,ze.r6_1,ze.oK];simp only [yL];rw [hty];rw [rv9,sIx (i:=j) rfl hj,hc,xT];refine bU _ _ _ _ ?_;rintro _ rfl _;rw [ze.r6_2,ze.zm8];simp only [zY];by_cases z:M[i].getD j 0=0
 .rw [Zac z,zB,ze.v13,zC,zE,zI,ze.xu,jo (by omega)];refine hR (m-1) _ _ _ _ (by omega) ⟨i+1,by congr 1,by omega,by omega,λi' l h1 h2 h3 => ?_,rfl,rfl⟩;rcases Zdj i' i with q | q
  .exact hz i' l h1 q h3
  .obtain rfl:i'=i:=by omega
   rw [hly] at h3;cases h3
   exact z
 .rw [Zab z,zB,ze.v13,zD,zX,yD];exact hK i _ hri (by omega) hz λl hl=>by rw [hly] at hl;cases hl;exact z
theorem xS {α β γ:Type} (f:α->β->γ):∀ (l:List α) (m:List β) (i:Nat) (a:α) (b:β),List.zipWith f (l.set i a) (m.set i b)=(List.zipWith f l m).set i (f a b)
 | [],_,_,_,_=>by simp
 | _::_,[],_,_,_=>by simp
 | x::l,y::m,0,a,b=>rfl
 | x::l,y::m,i+1,a,b=>by simp only [Zfk,Zft,xS f l m i a b]
theorem zhp {rs:List Pa} {M:List (List Rat)} {i r:Nat} {pi pr:Pa} {li lr:List Rat} (h1:rs[i]? = some pi) (h2:rs[r]? = some pr) (h3:M[i]? = some li) (h4:M[r]? = some lr) :
  (jU ((rs.set i pr).set r pi) ((M.set i lr).set r li)).Perm (jU rs M):=by
 unfold jU;rw [xS,xS];have e1:(List.zipWith (λr l=>Ob.arr r (l.map T9)) rs M)[i]? = some (.arr pi (li.map T9)):=kA h1 h3;have e2:(List.zipWith (λr l=>Ob.arr r (l.map T9)) rs M)[r]? = some (.arr pr (lr.map T9)):=kA h2 h4
 generalize List.zipWith (λr l=>Ob.arr r (l.map T9)) rs M=Z at *
 have l1:=(Zgw.1 e1);have l2:=(Zgw.1 e2);obtain ⟨k1,k2⟩:=l1;obtain ⟨k3,k4⟩:=l2;rw [<- k2,<- k4];exact List.set_set_perm k1 k3
theorem qb6 {M:List (List Rat)} {tid:Pa} {rs:List Pa} {L:List Ob} {w i r:Nat} {li lr:List Rat} {h0 h:T Blk} {nx:Pa} {K:Kw Prop} (H:PM h0 h nx tid rs w L M) (h3:M[i]? = some li) (h4:M[r]? = some lr)
  (hK:∀ (h':T Blk) (rs':List Pa),PM h0 h' nx tid rs' w L ((M.set i lr).set r li)->K .u h' nx=.ok True) :
  (zJ 1 (.sl tid 0 M.length none 1) (I (r:Int)) λv1=>zG v1 h λv2=>zJ 1 (.sl tid 0 M.length none 1) (I (i:Int)) λv3=>zG v3 h λv4=>zJ 1 (.sl tid 0 M.length none 1) (I (i:Int)) λv5=>zV 1 v5 v2 h nx λ_ h7 n8=>zQ (I (r:Int)) (I (r:Int)) (zQ (.sl tid 0 M.length none 1) (.sl tid 0 M.length none 1) (zJ 1 (.sl tid 0 M.length none 1) (I (r:Int)) λv9=>zV 1 v9 v4 h7 n8 K)))=.ok True:=by
 have hi:=(Zgw.1 h3).1;have hr:=(Zgw.1 h4).1;obtain ⟨pr,hpr,tr⟩:=H.tab (y:=r) hr;obtain ⟨pi,hpi,ti⟩:=H.tab (y:=i) hi;obtain ⟨g1,g2,g3⟩:=H;rw [sIx (i:=r) rfl hr,tr,sIx (i:=i) rfl hi,ti,sIx (i:=i) rfl hi];refine g3.store (k:=0) rfl (by rw [Zah];omega) rfl λh5 H5 => ?_;simp only [zH];rw [sIx (i:=r) rfl hr];refine H5.store (k:=0) rfl (by rw [Zan,Zah];omega) rfl λh6 H6 => ?_;simp only [Zfh] at H6;rw [<- Zer,<- Zer] at H6;refine hK h6 ((rs.set i pr).set r pi) ⟨by simp [g1],λl hl => ?_,H6.perm (((zhp hpi hpr h3 h4).symm.append_right _).cons _)⟩;rcases Zbc hl with e | e
 .rcases Zbc e with e | e
  .exact g2 _ e
  .rw [e];exact g2 _ (Zad h4)
 .rw [e];exact g2 _ (Zad h3)
def rX (i r j:Nat) (li lr:List Rat) (M:List (List Rat)):List (List Rat) :=
 let row:=li.map (· * (li.getD j 0)⁻¹)
 ay r j row (((M.set i lr).set r li).set r row)
theorem zyx {M:List (List Rat)} {P:List Nat} {li lr:List Rat} {o:Option Pa} {tid:Pa} {rs:List Pa} {w i j N:Nat} {h0 h:T Blk} {nx:Pa} {O:fK Prop} {R:Ks Prop} {x1 x2 x6 x7 x8 x9 x10 x11 x12 x13 x14 x15 x16 x17 x18:AV}
  (H:PM h0 h nx tid rs w [.gro o 1 P.length (P.map D)] M) (hli:M[i]? = some li) (hlr:M[P.length]? = some lr) (hz:li.getD j 0≠0) (hj:j<w) (hM:M.length<=100000) (hw:w<=100000) (hN:100010<=N)
  (hq:∀ l∈M,∀ q∈l,Qd q) (hs:Qd (li.getD j 0)⁻¹) (hrow:∀ q∈li.map (· * (li.getD j 0)⁻¹),Qd q) (hqp:∀ l∈((M.set i lr).set P.length li).set P.length (li.map (· * (li.getD j 0)⁻¹)),∀ q∈li.map (· * (li.getD j 0)⁻¹),Qd (l.getD j 0*q)) (hP:P.length<100000)
  (hK:∀ (o':Option Pa) (rs':List Pa) (h':T Blk) (nx':Pa) (x5 x6 x7 x8 x9 x10 x11 x12 x13 x14 x15 x16 x17 x18:AV),PM h0 h' nx' tid rs' w [.gro o' 1 (P.length+1) ((P++[j]).map D)] (rX i P.length j li lr M)->R (ze.fr (.sl tid 0 M.length none 1) x1 x2 (uw o' 1 (P.length+1)) (I (j:Int)) x5 x6 x7 x8 x9 x10 x11 x12 x13 x14 x15 x16 x17 x18) h' nx'=.ok True) :
  IR.run ze.t69 (CS Tryz.prog B) N O R (ze.fr (.sl tid 0 M.length none 1) x1 x2 (uw o 1 P.length) (I (j:Int)) (I (i:Int)) x6 x7 x8 x9 x10 x11 x12 x13 x14 x15 x16 x17 x18) h nx=.ok True:=by
 have hi:=(Zgw.1 hli).1;have hlen:∀ KK:AV->OP,sLen (uw o 1 P.length) KK=KK (I (P.length:Int)):=λKK=>by
  cases o with
  | some id=>exact yI ..
  | none =>
   obtain ⟨_,e⟩:P.map D=[]/\P.length=0:=H.2.2.own (.gro none 1 P.length (P.map D)) (by simp);rw [e];exact yJ ..
 rw [ze.t69,zA,zA,ze.sw,yI,qz,Zab (by omega),zB,ze.v14,zD,zE,zA,ze.sJ,hlen,zA,ze.aI];refine qb6 H hli hlr λh1 rs1 H1 => ?_;have hl1:((M.set i lr).set P.length li).length=M.length:=by rw [Zan,Zan]
 have hr:=(Zgw.1 hlr).1;have zwn:((M.set i lr).set P.length li)[P.length]? = some li:=Zhc (by rw [Zan];exact hr);have hlw:=H.2.1 _ (Zad hli);obtain ⟨r1,hr1,ht1⟩:=H1.tab (y:=P.length) (by omega);have hcj:li[j]? = some (li.getD j 0):=by
  rw [Zaa,Zgv (show j<li.length by omega)];rfl
 have hc:=λop=>H1.cell hr1 zwn hcj op;rw [zA,ze.zaa,sIx (i:=P.length) rfl hr,ht1,rv9,sIx (i:=j) rfl hj,hc];refine zcu (hq _ (Zad hli) _ (Zad hcj)) hz _ _ _ _ ?_;rintro _ rfl _;rw [zA,zA,ze.tO,zI,<- hl1];refine zyu H1 zwn (by omega) hw hN hs (hq _ (Zad hli)) λh2 y15 H2 => ?_;have hl2:(((M.set i lr).set P.length li).set P.length (li.map (· * (li.getD j 0)⁻¹))).length=((M.set i lr).set P.length li).length:=Zan;have hrow2:(((M.set i lr).set P.length li).set P.length (li.map (· * (li.getD j 0)⁻¹)))[P.length]? = some (li.map (· * (li.getD j 0)⁻¹)):=Zhc (by omega);rw [zA,zA,ze.zfn,zI,<- hl2];refine zyw H2 hrow2 hj (by omega) hw hN ?_ hqp λh3 y10 y11 y16 y17 y18 H3 => ?_
 .intro l hl q hq';rcases Zbc hl with e | e
  .rcases Zbc e with e | e
   .rcases Zbc e with e | e
    .exact hq _ e _ hq'
    .subst e;exact hq _ (Zad hlr) _ hq'
   .subst e;exact hq _ (Zad hli) _ hq'
  .subst e;exact hrow _ hq'
 rw [hl2,hl1,ze.zzj];obtain ⟨k1,k2,k3⟩:=H3;have H4:=k3.perm ((Zdk _ _).cons _ |>.trans (.swap _ _ _));refine H4.oH (v:=D j) (by omega) (by decide) rfl rfl λo' h4 nx4 H5 => ?_;refine hK o' rs1 h4 nx4 _ _ _ _ _ _ _ _ _ _ _ _ _ _ ⟨k1,k2,?_⟩;have H6:=H5.perm ((List.Perm.swap _ _ _).trans ((Zdk _ _).symm.cons _));rw [Zbh];exact H6
theorem xV {l c:List AV} {off:Nat} (h:off+c.length<=l.length):(gR l off c).length=l.length:=by
 unfold gR;rw [Zae,Zae,Zai,Zcp];omega
theorem pR {l c:List AV} {off m:Nat} (h:off+c.length<=l.length):(gR l off c)[m]? = if off<=m/\m<off+c.length then c[m-off]? else l[m]? := by
 unfold gR;have ht:(l.take off).length=off:=by rw [Zai];omega
 by_cases h1:m<off
 .rw [if_neg (by omega),Zcg,Zhb (by omega),Zhe h1]
 .by_cases h2:m<off+c.length
  .rw [if_pos (by omega),Zcg,Zgy (by omega),ht,Zhb (by omega)]
  .rw [if_neg (by omega),Zcg,Zgy (by omega),ht,Zgy (by omega),Zhf]
   congr 1;omega
theorem Hp.aR {h0 h:T Blk} {nx:Pa} {L:List Ob} {k n off:Nat} {id:Pa} {l l2:List AV} {K:Kw Prop} (H:Hp h0 h nx L) (hk:L[k]? = some (.arr id l)) (hle:off+n<=l.length) (hl2:l2.length=n) (hK:∀ h',Hp h0 h' nx (L.set k (.arr id (gR l off l2)))->K .u h' nx=.ok True):zV n (.ptr id off) (.agg l2) h nx K=.ok True:=by
 obtain ⟨o,t,h1,h2⟩:=H.own _ (Zad hk);show qm (T.get .no id h) _ _=_;rw [h1];show (bif Nat.beq l2.length n&&Nat.ble (off+n) l.length then uF l2 t off (λt'=>T.fV Blk.no (.cells o l.length t') id h λh'=>K .u h' nx) else .no 42)=_;rw [eU hl2,Zag hle];simp only [Zgq,cond_true];rw [jM,T.ul];refine hK _ (H.upd hk (by simp [Ob.names]) rfl ⟨o,_,by rw [T.get_set_same,xV (by omega)],?_⟩);rw [xV (by omega)];apply Zbu;intro i;rw [pR (by omega)];by_cases hi:i<l.length
 .rw [yN _ _ _ _ hi,Zbg,u6];have hr:=yN t 0 l.length i hi;rw [h2,Zbg] at hr;by_cases hc:off<=i/\i<off+l2.length
  .rw [if_pos hc,if_pos hc,Zaa,Zgv (by omega)];rfl
  .rw [if_neg hc,if_neg hc];exact hr.symm
 .rw [Zha (by simp;omega),if_neg (by omega),Zha (by omega)]
def aM (c:List AV) (j:Nat) (x:Rat):Prop:=∃ s w s' w',(c.drop (j*4)).take 4=[s,w,s',w']/\fe s w x.num/\fe s' w' (x.den:Int)
def su (c:List AV) (q:List Rat):Prop:=c.length=q.length*4/\∀ j x,q[j]? = some x->aM c j x
theorem zwo {c d:List AV} {i j:Nat} (h:∀ t,t<4->c[i+t]? = d[j+t]?):(c.drop i).take 4=(d.drop j).take 4:=by
 apply Zbu;intro t;by_cases ht:t<4
 .rw [Zhe ht,Zhe ht,Zhf,Zhf];exact h t ht
 .rw [Zha (by rw [Zai];omega),Zha (by rw [Zai];omega)]
theorem aM.same {c:List AV} {j:Nat} {x:Rat} {s w s' w':AV} (hj:j*4+4<=c.length) (h1:fe s w x.num) (h2:fe s' w' (x.den:Int)):aM (gR c (j*4) [s,w,s',w']) j x:=by
 refine ⟨s,w,s',w',?_,h1,h2⟩;have:[s,w,s',w']=(([s,w,s',w']:List AV).drop 0).take 4:=rfl;rw [this];refine zwo λt ht => ?_;rw [pR (by simpa using hj),if_pos ⟨by omega,by simp;omega⟩];simp
theorem aM.other {c:List AV} {i j:Nat} {x:Rat} {s w s' w':AV} (hj:j*4+4<=c.length) (hij:i≠j) (h:aM c i x):aM (gR c (j*4) [s,w,s',w']) i x:=by
 obtain ⟨a,b,a',b',e,h1,h2⟩:=h;refine ⟨a,b,a',b',?_,h1,h2⟩;rw [<- e];refine zwo λt ht => ?_;rw [pR (by simpa using hj),if_neg];simp only [Zbd,Zfb];omega
theorem su.put {c:List AV} {q:List Rat} {j:Nat} {x:Rat} {s w s' w':AV} (h:su c q) (hj:j<q.length) (h1:fe s w x.num) (h2:fe s' w' (x.den:Int)):su (gR c (j*4) [s,w,s',w']) (q.set j x):=by
 have hl:j*4+4<=c.length:=by rw [h.1];omega
 refine ⟨by rw [xV (by simpa using hl),Zan];exact h.1,λi y hy => ?_⟩;by_cases e:i=j
 .subst e;rw [Zhc hj] at hy;obtain rfl:=Option.some.inj hy;exact aM.same hl h1 h2
 .rw [Zhd (by omega)] at hy;exact aM.other hl e (h.2 i y hy)
theorem su.get {c:List AV} {q:List Rat} {j:Nat} {x:Rat} (h:su c q) (hx:q[j]? = some x):∃ cs,(c.drop (j*4)).take 4=cs/\j*4+4<=c.length/\j<q.length/\jP (.agg cs) x:=by
 obtain ⟨s,w,s',w',e,h1,h2⟩:=h.2 j x hx;have hj:=(Zgw.1 hx).1;exact ⟨_,e,by rw [h.1];omega,hj,s,w,s',w',rfl,h1,h2⟩
abbrev rwV (n:Nat) (r:Pa):AV:=.sl r 0 n (some n) 4
theorem oU {r:Pa} {n j:Nat} {z:Int} {op:AV->OP} (hz:z=(j:Int)) (hj:j<n):zJ 4 (rwV n r) (I z) op=op (.ptr r (j*4)):=by
 subst hz;rw [uR hj,Zbg]
theorem zwp {n j:Nat} {l:List AV} {z:Int} {op:AV->OP} (hz:z=(j:Int)) (hj:j<n):zJ 4 (.lst 4 n l) (I z) op=op (.fp (l.drop (j*4))):=cu hz hj
theorem rat0:((0:Int):Rat)=0:=rfl
theorem rat1:((1:Int):Rat)=1:=rfl
theorem mG (n:Nat) (z:List AV):(ni n z).length=n*z.length:=by
 induction n with
 | zero=>show ([]:List AV).length=_;rw [Nat.zero_mul];rfl
 | succ n ih=>show (z++ni n z).length=_;rw [Zae,ih,Zbn,Zey,Zdh]
theorem zhq {h0 h:T Blk} {nx p:Pa} {L:List Ob} {n:Nat} {K:Kw Prop} (H:Hp h0 h nx L) (hn:n<=1000) (hK:∀ id c h' nx',su c (List.replicate n 0)->Hp h0 h' nx' (.arr id c::L)->K (rwV n id) h' nx'=.ok True):(CS Tryz.prog B).fn 105 p [I (n:Int)] h nx K=.ok True:=by
 refine zL zN yC 2000 λhf => ?_;rw [jl.go,jl.t20,zA,jl.zu,zA,jl.zo];refine H.mkN (n:=n) (c:=n) rfl rfl (Zaf _) (by omega) (by omega) λid h1 nx1 H1 => ?_;rw [zA,zA,jl.yw,yI,zI];refine jl.zfx (λm x5 h' nx'=>∃ (i:Nat) (c:List AV),x5=I (i:Int)/\m+i=n/\c.length=n*4/\(∀ j,j<i->aM c j 0)/\Hp h0 h' nx' (.arr id c::L)) (m:=n) (by omega) ⟨0,_,rfl,rfl,mG _ _,λj hj=>by omega,H1⟩ ?_;rintro m z3 z5 z6 h3 nx3 R ⟨i,c,rfl,hm,hc,hall,H3⟩ hR;rw [jl.t12,zA,jl.vk,jf,zA,zB,jl.v6];by_cases ci:i<n
 .rw [Zac (by omega),zC,zE,zA,zI,zA,jl.fZ,jl.uy];refine zhg (by unfold rF;omega) _ _ _ _ ?_;rintro _ ⟨s,w,s',w',rfl,i1,i2⟩ _;rw [rat0] at i1 i2;rw [oU (j:=i) rfl ci];refine H3.aR (k:=0) (off:=i*4) rfl (by omega) rfl λh4 H4 => ?_;rw [jl.nu,jo (by omega)];refine hR (m-1) _ _ _ _ _ (by omega) ⟨i+1,_,by congr 1,by omega,by rw [xV (by simp;omega)];exact hc,λj hj => ?_,H4⟩;by_cases e:j=i
  .subst e;exact aM.same (by omega) i1 i2
  .exact aM.other (by omega) e (hall j (by omega))
 .rw [Zab (by omega),zD,zX,yD,zA,jl.sw];simp only [zF,zO];rw [jl.ret];refine hK id c _ _ ⟨by rw [Zav];exact hc,λj x hx => ?_⟩ H3;have hj:=(Zgw.1 hx).1;rw [Zav] at hj;rw [Zhm,if_pos hj] at hx;obtain rfl:=Option.some.inj hx;exact hall j (by omega)
def sP (n:Nat) (l:List Int):List Rat:=l.foldl (λq c=>q.set c.toNat 1) (List.replicate n 0)
theorem zdp (n:Nat) (l:List Int) (c:Int):sP n (l++[c])=(sP n l).set c.toNat 1:=by unfold sP;rw [List.foldl_append];rfl
theorem pO:∀ (l:List Int) (q:List Rat),(l.foldl (λq c=>q.set c.toNat 1) q).length=q.length
 | [],_=>rfl
 | c::l,q=>by rw [Zfc,pO l,Zan]
theorem yR (n:Nat) (l:List Int):(sP n l).length=n:=by unfold sP;rw [pO,Zav]
theorem mQ {h0 h:T Blk} {nx p:Pa} {L:List Ob} {n:Nat} {l:List Int} {K:Kw Prop} (H:Hp h0 h nx L) (hn:n<=1000) (hl:l.length<=1000) (hr:∀ c∈l,0<=c/\c<(n:Int)) (hK:∀ id c h' nx',su c (sP n l)->Hp h0 h' nx' (.arr id c::L)->K (rwV n id) h' nx'=.ok True):(CS Tryz.prog B).fn 104 p [I (n:Int),encI l] h nx K=.ok True:=by
 refine zL zN yC 2000 λhf => ?_;rw [jk.go,jk.t20,zA,jk.zu,zA,jk.zo];refine zhq H hn λid c h1 nx1 hc H1 => ?_;rw [zA,zA,jk.yw,zW,zI];refine jk.zfx (λm x7 h' nx'=>∃ (i:Nat) (c:List AV),x7=I (i:Int)/\m+i=l.length/\su c (sP n (l.take i))/\Hp h0 h' nx' (.arr id c::L)) (m:=l.length) (by omega) ⟨0,c,rfl,rfl,hc,H1⟩ ?_;rintro m z4 z7 z8 h3 nx3 R ⟨i,c,rfl,hm,hc,H3⟩ hR;rw [jk.t12,zA,jk.vk,jf,zA,zB,jk.v8];by_cases ci:i<l.length
 .have hx:l[i]? = some l[i]:=Zgv ci;have hb:=hr _ (Zat ci);rw [Zac (by omega),zC,zE,zA,zI,zA,jk.fZ,cu rfl ci,ldL (sF hx),jk.uy];refine zhg (by unfold rF;omega) _ _ _ _ ?_;rintro _ ⟨s,w,s',w',rfl,i1,i2⟩ _;rw [rat1] at i1 i2;have hcl:=hc.1;rw [yR] at hcl;rw [oU (j:=l[i].toNat) (by omega) (by omega)];refine H3.aR (k:=0) (off:=l[i].toNat*4) rfl (by omega) rfl λh4 H4 => ?_;rw [jk.nu,jo (by omega)];refine hR (m-1) _ _ _ _ _ (by omega) ⟨i+1,_,by congr 1,by omega,?_,H4⟩;rw [Zaq,hx,Zcm,zdp];exact hc.put (by rw [yR];omega) i1 i2
 .rw [Zab (by omega),zD,zX,yD,zA,jk.sw];simp only [zF,zO];rw [jk.ret];rw [Zak (by omega)] at hc;exact hK id c _ _ hc H3
def jX (b:Rat) (r o:List Rat):List Rat:=List.zipWith (λx y=>x-b*y) r o
theorem pget {l e:List Rat} {c:Nat} {q:Rat} (hle:e.length=l.length) (hq:l[c]? = some q):(e.take c++l.drop c)[c]? = some q:=by
 have hc:=(Zgw.1 hq).1;rw [Zgy (by rw [Zai];omega),Zai,Zhf,show c+(c-min c e.length)=c by omega];exact hq
theorem zwq {l e:List Rat} {c:Nat} {q:Rat} (hle:e.length=l.length) (hq:e[c]? = some q):(e.take c++l.drop c).set c q=e.take (c+1)++l.drop (c+1):=by
 have hc:=(Zgw.1 hq).1;rw [Zbb (show c<l.length by omega),dU (by rw [Zai];omega),Zaq,hq];simp
theorem zwr {l e:List Rat} {c:Nat} {q:Rat} (hle:e.length=l.length) (hq:e[c]? = some q) (hl:l[c]? = some q):e.take c++l.drop c=e.take (c+1)++l.drop (c+1):=by
 have hc:=(Zgw.1 hq).1;have h1:l[c]'(by omega)=q:=by rw [Zgv (by omega)] at hl;exact Option.some.inj hl
 rw [Zbb (show c<l.length by omega),Zaq,hq,h1];simp
theorem ze7 {h0 h:T Blk} {nx p r o:Pa} {L:List Ob} {kr ko n M N P R:Nat} {cr co:List AV} {qr qo:List Rat} {v:AV} {b:Rat} {K:Kw Prop} (H:Hp h0 h nx L) (hkr:L[kr]? = some (.arr r cr)) (hko:L[ko]? = some (.arr o co)) (hne:ko≠kr) (hr:su cr qr) (ho:su co qo) (hlr:qr.length=n) (hlo:qo.length=n) (hn:n<=1000) (hv:jP v b) (hb:xg M b) (hqr:∀ x∈qr,xg P x) (hqo:∀ x∈qo,xg N x) (hqp:∀ x∈qo,xg R (b*x)) (hMN:M*N<=9223372036854775807) (hPR:2*(P*R)<=9223372036854775807)
  (hK:∀ c h' nx',su c (jX b qr qo)->Hp h0 h' nx' (L.set kr (.arr r c))->K (.tup []) h' nx'=.ok True):(CS Tryz.prog B).fn 106 p [rwV n r,v,rwV n o] h nx K=.ok True:=by
 refine zL zN yC 2000 λhf => ?_;obtain ⟨sb,wb,sb',wb',rfl,b1,b2⟩:=hv;have hkl:=(Zgw.1 hkr).1;have hE:(jX b qr qo).length=qr.length:=by unfold jX;rw [Zdo];omega
 rw [jv.go,jv.t18,zA,jv.zu];refine H.box (l:=[sb,wb,sb',wb']) rfl λbb h1 nx1 H1 => ?_;rw [zA,jv.zo,yI,zI]
 refine jv.zfo (λm x8 h' nx'=>∃ (i:Nat) (c:List AV),x8=I (i:Int)/\m+i=n/\su c ((jX b qr qo).take i++qr.drop i)/\Hp h0 h' nx' (.arr bb [sb,wb,sb',wb']::L.set kr (.arr r c))) (m:=n) (by omega) ⟨0,cr,rfl,rfl,by rw [Zdr,Zbk,Zcq];exact hr,by
  have:L.set kr (.arr r cr)=L:=by
   rw [Zgv hkl] at hkr;rw [<- Option.some.inj hkr,List.set_getElem_self]
  rw [this];exact H1⟩ ?_
 rintro m z4 z5 z8 z9 z10 h3 nx3 R ⟨i,c,rfl,hm,hc,H3⟩ hR;rw [jv.t14,zA,jv.yw,jf,zA,zB,jv.v9];by_cases ci:i<n
 .have hx:qo[i]? = some qo[i]:=Zgv (by omega);have hy:qr[i]? = some qr[i]:=Zgv (by omega);have hz:(jX b qr qo)[i]? = some (qr[i]-b*qo[i]):=by unfold jX;rw [Zhh,hy,hx]
  have mo:=Zat (l:=qo) (n:=i) (by omega);have mr:=Zat (l:=qr) (n:=i) (by omega);obtain ⟨cs,e1,e2,_,fo⟩:=ho.get hx;obtain ⟨cs2,e3,e4,hcj,fr⟩:=hc.get (pget hE hy);have hko3:(Ob.arr bb [sb,wb,sb',wb']::L.set kr (.arr r c))[ko+1]? = some (.arr o co):=by
   show (L.set kr (.arr r c))[ko]? = _;rw [Zhd (by omega)];exact hko
  have hkr3:(Ob.arr bb [sb,wb,sb',wb']::L.set kr (.arr r c))[kr+1]? = some (.arr r c):=by
   show (L.set kr (.arr r c))[kr]? = _;rw [Zhc hkl]
  obtain ⟨so,wo,so',wo',e5,o1,o2⟩:=fo;obtain rfl:=AV.agg.inj e5;rw [Zac (by omega),zC,zE,zA,zI,zA,jv.ng,oU (j:=i) rfl ci,H3.ku hko3 e2 e1];refine H3.alloc λxb h4 nx4 H4 => ?_;refine H4.jh (l2:=[so,wo,so',wo']) (k:=0) rfl rfl rfl λh5 H5 => ?_;rw [zA,jv.fZ,H5.zm (k:=0) (n:=4) rfl rfl];refine bV ⟨_,_,_,_,rfl,o1,o2⟩ _ _ _ _ ?_;rintro _ rfl _;rw [fB,zB,jv.v10];by_cases d:qo[i]=0
  .have d2:qr[i]-b*qo[i]=qr[i]:=by rw [d,Zbm,Zfj,Rat.neg_zero,Rat.add_zero]
   rw [Zac (sH.2 (Zcr.2 d)),Zao,zD,zE,jv.xu,jo (by omega)];rw [d2] at hz;exact hR (m-1) _ _ _ _ _ _ _ (by omega) ⟨i+1,c,by congr 1,by omega,by rw [<- zwr hE hz hy];exact hc,H5.drop⟩
  .rw [Zab (λq=>d (Zcr.1 (sH.1 q))),Zam,zC,jv.uy];have lr:∀ op:AV->OP,zK 4 (.ptr r (i*4)) h5 op=op (.agg cs2):=λop=>H5.ku (k:=kr+2) hkr3 e4 e3;have lb:∀ op:AV->OP,zK 4 (.ptr bb 0) h5 op=op (.agg [sb,wb,sb',wb']):=λop=>H5.zm (k:=1) (n:=4) rfl rfl;have lx:∀ op:AV->OP,zK 4 (.ptr xb 0) h5 op=op (.agg [so,wo,so',wo']):=λop=>H5.zm (k:=0) (n:=4) rfl rfl;have ix:∀ op:AV->OP,zJ 4 (rwV n r) (I (i:Int)) op=op (.ptr r (i*4)):=λop=>oU (j:=i) rfl ci;simp only [ix,lr,lb,lx];refine zhh ⟨_,_,_,_,rfl,b1,b2⟩ ⟨_,_,_,_,rfl,o1,o2⟩ hb (hqo _ mo) hMN _ _ _ _ ?_;rintro v5 f5 _;simp only [lr,zH];refine zmp fr f5 (hqr _ mr) (hqp _ mo) hPR _ _ _ _ ?_;rintro _ ⟨s6,w6,s6',w6',rfl,i1,i2⟩ _;refine H5.aR (k:=kr+2) (off:=i*4) hkr3 e4 rfl λh6 H6 => ?_;rw [jv.xu,jo (by omega)];refine hR (m-1) _ _ _ _ _ _ _ (by omega) ⟨i+1,gR c (i*4) [s6,w6,s6',w6'],by congr 1,by omega,?_,?_⟩
   .rw [<- zwq hE hz];exact hc.put hcj i1 i2
   .exact (H6.cast (show ((Ob.arr xb [I 0,.zb,I 0,.zb]::Ob.arr bb [sb,wb,sb',wb']::L.set kr (.arr r c)).set 0 (Ob.arr xb [so,wo,so',wo'])).set (kr+2) (.arr r (gR c (i*4) [s6,w6,s6',w6']))=Ob.arr xb [so,wo,so',wo']::Ob.arr bb [sb,wb,sb',wb']::L.set kr (.arr r (gR c (i*4) [s6,w6,s6',w6'])) by
     show Ob.arr xb _::Ob.arr bb _::(L.set kr (.arr r c)).set kr _=_;rw [Zcx])).drop
 .rw [Zab (by omega),zD,zX,yD];rw [jv.ret];rw [Zak (by omega),Zbi (by omega),Zba] at hc;exact hK c _ _ hc H3.drop
def yU (b:Rat) (r:List Rat):List Rat:=r.map λx=>x*b
theorem zq7 {h0 h:T Blk} {nx p r:Pa} {L:List Ob} {kr n M N:Nat} {cr:List AV} {qr:List Rat} {v:AV} {b:Rat} {K:Kw Prop} (H:Hp h0 h nx L) (hkr:L[kr]? = some (.arr r cr)) (hr:su cr qr) (hlr:qr.length=n) (hn:n<=1000) (hv:jP v b) (hb:xg M b) (hqr:∀ x∈qr,xg N x) (hMN:N*M<=9223372036854775807)
  (hK:∀ c h' nx',su c (yU b qr)->Hp h0 h' nx' (L.set kr (.arr r c))->K (.tup []) h' nx'=.ok True):(CS Tryz.prog B).fn 111 p [rwV n r,v] h nx K=.ok True:=by
 refine zL zN yC 2000 λhf => ?_;obtain ⟨sb,wb,sb',wb',rfl,b1,b2⟩:=hv;have hkl:=(Zgw.1 hkr).1;have hE:(yU b qr).length=qr.length:=by unfold yU;rw [Zah]
 rw [jy.go,jy.t18,zA,jy.zu];refine H.box (l:=[sb,wb,sb',wb']) rfl λbb h1 nx1 H1 => ?_;rw [zA,jy.zo,yI,zI]
 refine jy.zfo (λm x7 h' nx'=>∃ (i:Nat) (c:List AV),x7=I (i:Int)/\m+i=n/\su c ((yU b qr).take i++qr.drop i)/\Hp h0 h' nx' (.arr bb [sb,wb,sb',wb']::L.set kr (.arr r c))) (m:=n) (by omega) ⟨0,cr,rfl,rfl,by rw [Zdr,Zbk,Zcq];exact hr,by
  have:L.set kr (.arr r cr)=L:=by
   rw [Zgv hkl] at hkr;rw [<- Option.some.inj hkr,List.set_getElem_self]
  rw [this];exact H1⟩ ?_
 rintro m z3 z4 z7 z8 z9 h3 nx3 R ⟨i,c,rfl,hm,hc,H3⟩ hR;rw [jy.t14,zA,jy.yw,jf,zA,zB,jy.v8];by_cases ci:i<n
 .have hy:qr[i]? = some qr[i]:=Zgv (by omega);have hz:(yU b qr)[i]? = some (qr[i]*b):=by unfold yU;rw [Zgx,hy];rfl
  have mr:=Zat (l:=qr) (n:=i) (by omega);obtain ⟨cs2,e3,e4,hcj,fr⟩:=hc.get (pget hE hy);have hkr3:(Ob.arr bb [sb,wb,sb',wb']::L.set kr (.arr r c))[kr+1]? = some (.arr r c):=by
   show (L.set kr (.arr r c))[kr]? = _;rw [Zhc hkl]
  obtain ⟨so,wo,so',wo',e5,o1,o2⟩:=fr;obtain rfl:=AV.agg.inj e5;rw [Zac (by omega),zC,zE,zA,zI,zA,jy.ng,oU (j:=i) rfl ci,H3.ku hkr3 e4 e3];refine H3.alloc λxb h4 nx4 H4 => ?_;refine H4.jh (l2:=[so,wo,so',wo']) (k:=0) rfl rfl rfl λh5 H5 => ?_;rw [zA,jy.fZ,H5.zm (k:=0) (n:=4) rfl rfl];refine bV ⟨_,_,_,_,rfl,o1,o2⟩ _ _ _ _ ?_;rintro _ rfl _;rw [fB,zB,jy.v9];by_cases d:qr[i]=0
  .have d2:qr[i]*b=qr[i]:=by rw [d,Zbz]
   rw [Zac (sH.2 (Zcr.2 d)),Zao,zD,zE,jy.xu,jo (by omega)];rw [d2] at hz;exact hR (m-1) _ _ _ _ _ _ _ (by omega) ⟨i+1,c,by congr 1,by omega,by rw [<- zwr hE hz hy];exact hc,H5.drop⟩
  .rw [Zab (λq=>d (Zcr.1 (sH.1 q))),Zam,zC,jy.uy,H5.zm (k:=0) (n:=4) rfl rfl,H5.zm (k:=1) (n:=4) rfl rfl];refine zhh ⟨_,_,_,_,rfl,o1,o2⟩ ⟨_,_,_,_,rfl,b1,b2⟩ (hqr _ mr) hb hMN _ _ _ _ ?_;rintro _ ⟨s6,w6,s6',w6',rfl,i1,i2⟩ _;rw [oU (j:=i) rfl ci];refine H5.aR (k:=kr+2) (off:=i*4) hkr3 e4 rfl λh6 H6 => ?_;rw [jy.xu,jo (by omega)];refine hR (m-1) _ _ _ _ _ _ _ (by omega) ⟨i+1,gR c (i*4) [s6,w6,s6',w6'],by congr 1,by omega,?_,?_⟩
   .rw [<- zwq hE hz];exact hc.put hcj i1 i2
   .exact (H6.cast (show ((Ob.arr xb [I 0,.zb,I 0,.zb]::Ob.arr bb [sb,wb,sb',wb']::L.set kr (.arr r c)).set 0 (Ob.arr xb [so,wo,so',wo'])).set (kr+2) (.arr r (gR c (i*4) [s6,w6,s6',w6']))=Ob.arr xb [so,wo,so',wo']::Ob.arr bb [sb,wb,sb',wb']::L.set kr (.arr r (gR c (i*4) [s6,w6,s6',w6'])) by
     show Ob.arr xb _::Ob.arr bb _::(L.set kr (.arr r c)).set kr _=_;rw [Zcx])).drop
 .rw [Zab (by omega),zD,zX,yD];rw [jy.ret];rw [Zak (by omega),Zbi (by omega),Zba] at hc;exact hK c _ _ hc H3.drop
end Go.Ev
namespace Go.Ev
open Go Go.Proofs
def Dn (t M:Nat) (q:Rat):Prop:=∃ z:Int,q*((t:Int):Rat)=(z:Rat)/\z.natAbs<=M
theorem dH {t:Int} (h:t≠0):(t:Rat)≠0:=λe=>by
 have:=congrArg Rat.num e;rw [Zfe] at this;exact h this
theorem Dn.nm {t M:Nat} {q:Rat} (ht:1<=t) (htM:t<=M) (h:Dn t M q):xg M q:=by
 obtain ⟨z,e,hz⟩:=h;have h0:((t:Int):Rat)≠0:=dH (by omega);have eq:q=Rat.divInt z (t:Int):=by rw [Zgr];grind
 obtain ⟨d1,d2⟩:=kM (n:=z) (d:=(t:Int)) (by omega);have hg:0<(Int.gcd z (t:Int):Int):=by have:=Int.gcd_pos_of_ne_zero_right z (show (t:Int)≠0 by omega);omega
 have hg1:1<=Int.gcd z (t:Int):=by omega
 refine ⟨?_,?_⟩
 .rw [eq,d1,Zel (Zev ..)];exact Zax (Zcl _ _) hz
 .have:((Rat.divInt z (t:Int)).den:Int).natAbs<=M:=by
   rw [d2,Zel (Zfq ..)];exact Zax (Zcl _ _) (by omega)
  rw [eq];exact this
theorem Dn.mono {t M N:Nat} {q:Rat} (h:Dn t M q) (hMN:M<=N):Dn t N q:=by
 obtain ⟨z,e,hz⟩:=h;exact ⟨z,e,Zax hz hMN⟩
theorem Dn.zero (t M:Nat):Dn t M 0:=⟨0,by grind,by simp⟩
theorem Dn.sub {t M N:Nat} {p q:Rat} (hp:Dn t M p) (hq:Dn t N q):Dn t (M+N) (p-q):=by
 obtain ⟨z,e,hz⟩:=hp;obtain ⟨w,f,hw⟩:=hq;refine ⟨z-w,by rw [Rat.intCast_sub];grind,?_⟩;have:=Int.natAbs_sub_le z w;omega
theorem Dn.mul {t s M N:Nat} {p q:Rat} (hp:Dn t M p) (hq:Dn s N q):Dn (t*s) (M*N) (p*q):=by
 obtain ⟨z,e,hz⟩:=hp;obtain ⟨w,f,hw⟩:=hq;refine ⟨z*w,?_,?_⟩
 .rw [Zei,show ((t*s:Nat):Int)=(t:Int)*(s:Int) by simp,Zei];grind
 .rw [Zcc];exact Zbl hz hw
def Sg (b:Rat):Prop:=b = -1\/b=0\/b=1
theorem Sg.dn {b:Rat} (h:Sg b) {t M:Nat} (hM:t<=M):Dn t M b:=by
 rcases h with rfl | rfl | rfl
 .exact ⟨-(t:Int),by rw [Zcn];grind,by omega⟩
 .exact Dn.zero _ _
 .exact ⟨(t:Int),by grind,by omega⟩
theorem Sg.mul {b q:Rat} (h:Sg b) {t M:Nat} (hq:Dn t M q):Dn t M (b*q):=by
 obtain ⟨z,e,hz⟩:=hq;rcases h with rfl | rfl | rfl
 .exact ⟨-z,by rw [Zcn];grind,by omega⟩
 .rw [Zbz];exact Dn.zero _ _
 .exact ⟨z,by grind,hz⟩
abbrev at' (q:List Rat) (j:Nat):Rat:=q.getD j 0
theorem uE {q:List Rat} {j:Nat} (h:j<q.length):q[j]? = some (at' q j):=by
 rw [at',Zaa,Zgv h];rfl
theorem jV {q:List Rat} {j:Nat} (h:q.length<=j):at' q j=0:=by
 rw [at',Zaa,Zha h];rfl
theorem dM {q:List Rat} {x:Rat} (h:x∈q):∃ j,j<q.length/\x=at' q j:=by
 obtain ⟨j,hj⟩:=Zau.1 h;have hl:=(Zgw.1 hj).1;rw [uE hl] at hj;exact ⟨j,hl,(Option.some.inj hj).symm⟩
theorem gB {b:Rat} {r o:List Rat} (h:r.length=o.length):(jX b r o).length=r.length:=by
 unfold jX;rw [Zdo];omega
theorem gZ {b:Rat} {r o:List Rat} (h:r.length=o.length) (j:Nat):at' (jX b r o) j=at' r j-b*at' o j:=by
 by_cases hj:j<r.length
 .have h1:=uE (q:=jX b r o) (j:=j) (by rw [gB h];exact hj);unfold jX at h1;rw [Zhh,uE hj,uE (q:=o) (by omega)] at h1;exact (Option.some.inj h1).symm
 .rw [jV (by rw [gB h];omega),jV (by omega),jV (by omega)];grind
theorem u9 {b:Rat} {r:List Rat}:(yU b r).length=r.length:=by unfold yU;rw [Zah]
theorem kE {b:Rat} {r:List Rat} (j:Nat):at' (yU b r) j=at' r j*b:=by
 by_cases hj:j<r.length
 .have h1:=uE (q:=yU b r) (j:=j) (by rw [u9];exact hj);unfold yU at h1;rw [Zgx,uE hj] at h1;exact (Option.some.inj h1).symm
 .rw [jV (by rw [u9];omega),jV (by omega),Zbz]
def dot:List Rat->List Rat->Rat
 | a::q,b::f=>a*b+dot q f
 | _,_=>0
theorem uA (b:Rat):∀ (r o f:List Rat),r.length=o.length->dot (jX b r o) f=dot r f-b*dot o f
 | [],[],f,_=>by unfold jX;simp [dot];grind
 | x::r,y::o,[],_=>by unfold jX;simp [dot];grind
 | x::r,y::o,z::f,h=>by
  have ih:=uA b r o f (by simpa using h);unfold jX at ih ⊢;rw [Zft,dot,dot,dot,ih];grind
 | [],_::_,_,h=>by simp at h
 | _::_,[],_,h=>by simp at h
theorem kY (b:Rat):∀ (r f:List Rat),dot (yU b r) f=b*dot r f
 | [],f=>by simp [yU,dot]
 | x::r,[]=>by simp [yU,dot]
 | x::r,z::f=>by
  have ih:=kY b r f;unfold yU at ih ⊢;rw [Zdu,dot,dot,ih];grind
def redF:List (List Rat×Nat)->List Rat->List Rat
 | [],r=>r
 |(q,p)::l,r=>redF l (jX (at' r p) r q)
theorem zdq (q:List Rat) (p:Nat):∀ (l:List (List Rat×Nat)) (r:List Rat),redF (l++[(q,p)]) r=jX (at' (redF l r) p) (redF l r) q
 | [],r=>rfl
 |(q',p')::l,r=>by rw [Zbt,redF,zdq q p l,redF]
theorem j7 {α:Type} {l:List α} {i:Nat} {d:α} (h:i<l.length):l[i]? = some (l.getD i d):=by
 rw [Zaa,Zgv h];rfl
theorem yF {α:Type} {l:List α} {i:Nat} {d:α} (h:i<l.length):l.getD i d∈l:=Zad (j7 h)
abbrev oW (Q:List (List Rat)) (ps:List Nat):List (List Rat×Nat):=List.zip Q ps
theorem zcc {Q:List (List Rat)} {ps:List Nat} {k:Nat} (hl:ps.length=Q.length) (hk:k<Q.length):(oW Q ps).take (k+1)=(oW Q ps).take k++[(Q.getD k [],ps.getD k 0)]:=by
 have h1:Q[k]? = some (Q.getD k []):=j7 hk;have h2:ps[k]? = some (ps.getD k 0):=j7 (by omega);have h3:(oW Q ps)[k]? = some (Q.getD k [],ps.getD k 0):=List.getElem?_zip_eq_some.2 ⟨h1,h2⟩;rw [Zaq,h3];rfl
def qD (Q:List (List Rat)) (p:Nat) (r:List Rat):List (List Rat):=Q.map λo=>jX (at' o p) o r
theorem zyy {t N:Nat} {v:Rat} (ht:1<=t) (hv:v≠0) (h:Dn t N v):∃ s:Nat,1<=s/\s<=N/\Dn s t v⁻¹/\∀ {x:Rat} {R:Nat},Dn t R x->Dn s R (x*v⁻¹):=by
 obtain ⟨z,e,hz⟩:=h;have ht0:((t:Int):Rat)≠0:=dH (by omega);have hz0:z≠0:=λq=>by subst q;rw [show ((0:Int):Rat)=0 from rfl] at e;grind
 have hzr:(z:Rat)≠0:=dH hz0;refine ⟨z.natAbs,by omega,hz,?_,λ{x R} hx => ?_⟩
 .by_cases c:0<z
  .refine ⟨(t:Int),?_,by omega⟩;rw [show ((z.natAbs:Nat):Int)=z by omega];grind
  .refine ⟨-(t:Int),?_,by omega⟩;rw [show ((z.natAbs:Nat):Int) = -z by omega,Zcn,Zcn];grind
 .obtain ⟨w,f,hw⟩:=hx;by_cases c:0<z
  .refine ⟨w,?_,hw⟩;rw [show ((z.natAbs:Nat):Int)=z by omega];grind
  .refine ⟨-w,?_,by omega⟩;rw [show ((z.natAbs:Nat):Int) = -z by omega,Zcn,Zcn];grind
end Go.Ev
