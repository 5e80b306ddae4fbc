import Derived.Test.YtfgpjkchdelphaaGreatDoorEvC
import Derived.Test.YtfgpjkchdelphaaGreatDoorLaws
import Derived.Test.YtfgpjkchdelphaaGreatDoorIrT
import Derived.Test.YtfgpjkchdelphaaGreatDoorEvD
import Derived.KernelRfl
import Derived.Test.YtfgpjkchdelphaaGreatDoorCodea
import GoSem.Core.Next
import Derived.Sort.Grow
import Derived.Sort.Row
set_option linter.unusedSimpArgs false
set_option linter.unusedVariables false
noncomputable section
namespace Go.Ev
open Go Go.Proofs Go.RowKit
def bN:List AV->Option (List (List UInt8))
 | []=>some []
 | .str s::l=>match bN l with
  | some xs=>some (s::xs)
  | none=>none
 | _=>none
def zuq (l:List AV) (sep:List UInt8):Option AV:=match bN l with
 | some xs=>bif Nat.ble (Lib.join xs sep).length 100000 then some (.str (Lib.join xs sep)) else none
 | none=>none
def zur (cap:Option Nat) (ln:Nat):Bool:=match cap with
 | some k=>Nat.ble ln k
 | none=>true
def zpv (v:AV) (sep:List UInt8) (h:T Blk):Option AV:=match v with
 | .sl id off ln cap esz=>match T.get .no id h with
  | .cells _ m t=>bif Nat.beq esz 1&&Nat.ble (off+ln) m&&Nat.ble ln 100000&&zur cap ln then zuq (yQ t off ln) sep else none
  | _=>none
 | .za=>some (.str [])
 | _=>none
def zgs (f:Nat) (args:List AV) (h:T Blk):Option (AV×T Blk):=bif Nat.beq f 281 then (match args with
 | [v,.str sep]=>match zpv v sep h with
  | some v=>some (v,h)
  | none=>none
 | _=>none) else none
theorem zgu:∀ {l:List AV} {xs:List (List UInt8)},bN l=some xs->l=xs.map .str
 | [],xs,h=>by simp [bN] at h;subst h;rfl
 | x::l,xs,h=>by
  cases x <;> first | (simp [bN] at h;done) | skip
  simp only [bN] at h;cases hl:bN l with
  | none=>simp [hl] at h
  | some ys=>simp [hl] at h;subst h;simp [zgu hl]
theorem HR.below {P:Program} {B:Nat} {E:Env} {h:T Blk} {nx:Pa} {w w':World} (H:HR P B E h nx w) (hb:Below w.heap.size w w'):HR P B E h nx w'/\Ex E E w w':=by
 refine ⟨{
  blk:=λid hid=>by
   obtain ⟨b,n,o,q1,q2,q3⟩:=H.blk id hid;exact ⟨b,n,o,q1,by rw [hb.block b (H.lt _ _ _ q1).2];exact q2,q3⟩
  inj:=H.inj
  fresh:=H.fresh
  lt:=λid b n hid=>⟨(H.lt id b n hid).1,Zcm (H.lt id b n hid).2 hb.size⟩
  base:=Zax H.base hb.size
  frz:=λb i v hf=>by
   obtain ⟨⟨c,ty,fr,q1,q2⟩,q3⟩:=H.frz b i v hf;exact ⟨⟨c,ty,fr,by rw [hb.block b (Array.getElem?_eq_some_iff.1 q1).1];exact q1,q2⟩,q3⟩ },?_⟩
 exact ⟨.refl _,hb.os,hb.tape,hb.output,hb.size,λb hlt _=>hb.block b hlt,λid b n hid=>.inr ⟨id,n,hid⟩,λ_ _ v h=>.inr (.inl ⟨v,h⟩),λb L hL=>⟨L,by rw [hb.block b (Array.getElem?_eq_some_iff.1 hL).1];exact hL,.refl _⟩⟩
theorem zbl {B:Nat}:JOk Tryz.prog B zgs:=by
 intro E h nx w f args vs v h2 H hv hj;unfold zgs at hj;cases hf:Nat.beq f 281 with
 | false=>simp [hf] at hj
 | true =>
  obtain rfl:=yN hf;rw [hf,cond_true] at hj;split at hj
  case h_2=>cases hj
  rename_i _ x sep;cases hjj:zpv x sep h with
  | none=>simp [hjj] at hj
  | some v0 =>
  simp only [hjj,Option.some.injEq,Prod.mk.injEq] at hj;obtain ⟨rfl,rfl⟩:=hj;have hj:=hjj
  clear hjj
  refine ⟨(),trivial,trivial,trivial,λn=>.inl ⟨_,Tryz.func281,by kernel_rfl,by kernel_rfl,callsIn_wide.2 ?_⟩⟩;obtain ⟨l⟩:=vs;simp only [VRL] at hv;obtain ⟨u,_,rfl,hu,s,_,rfl,hs,rfl⟩:=hv;simp only [VR] at hs;subst hs
  have fin:∀ (xs:List (List UInt8)) (w':World) (e:Ending),v0=.str (Lib.join xs sep)->e=.returned (.string ⟨(Lib.join ((xs.map λs=>(⟨s.toArray⟩:ByteArray)).map (·.data.toList)) (⟨sep.toArray⟩:ByteArray).data.toList).toArray⟩)->Below w.heap.size w w' ->
    ∃ u E',e=.returned u/\VR E' v0 u/\HR Tryz.prog B E' h nx w'/\Ex E E' w w':=by
   intro xs w' e hve he hb;obtain ⟨h1,h2⟩:=H.below hb;refine ⟨_,E,he,?_,h1,h2⟩;rw [hve];simp only [VR,List.map_map]
   congr 2
   have:(xs.map ((λx=>x.data.toList) ∘ λs=>(⟨s.toArray⟩:ByteArray)))=xs:=by
    conv=>rhs;rw [<- List.map_id xs]
    exact Zfb λ_ _=>rfl
   rw [this]
  unfold zpv at hj;split at hj
  .rename_i id off ln cap esz;split at hj
   .rename_i op m t hb;cases hq:(Nat.beq esz 1&&Nat.ble (off+ln) m&&Nat.ble ln 100000&&zur cap ln) with
    | false=>simp [hq] at hj
    | true =>
     rw [hq,cond_true] at hj;simp only [Zal] at hq;obtain ⟨⟨⟨q1,q2⟩,q3⟩,q4⟩:=hq;obtain rfl:=yN q1;have q2:=yF q2;have q3:=yF q3;unfold zuq at hj;cases hx:bN (yQ t off ln) with
     | none=>simp [hx] at hj
     | some xs =>
      simp only [hx] at hj;cases hl:Nat.ble (Lib.join xs sep).length 100000 with
      | false=>simp [hl] at hj
      | true =>
       rw [hl,cond_true] at hj;have hl:=yF hl;obtain rfl:=(Option.some.inj hj).symm;have hxs:=zgu hx;have hln:xs.length=ln:=by
        have:=congrArg List.length hxs;simpa using this.symm
       obtain ⟨b,n,c,hE,rfl,hcap⟩:=hu.sZ;obtain ⟨b',n',o,h1,h2,h3⟩:=H.blk id (by rw [hb];intro e;cases e);rw [hE] at h1;cases h1;rw [hb] at h3;obtain ⟨cs,ty,fr,rfl,_,_,_,_,hc⟩:=h3
       have hjn:=Tryz.strings_Join b off c (xs.map λs=>(⟨s.toArray⟩:ByteArray)) ⟨sep.toArray⟩ w (by
        intro j x hx2;rw [List.getElem?_map] at hx2;cases hxj:xs[j]? with
        | none=>simp [hxj] at hx2
        | some s =>
         simp [hxj] at hx2;subst hx2;have hjl:j<ln:=by rw [<- hln];exact (List.getElem?_eq_some_iff.1 hxj).1
         obtain ⟨_,v',g1,g2⟩:=hc (off+j) (by omega);have he:T.get .u (.of (off+j)) t=.str s:=by
          have e1:=yI t off ln j hjl;rw [hxs] at e1;simp [hxj] at e1;exact e1.symm
         rw [he] at g2;simp only [VR] at g2;subst g2
         simp [World.cell?,h2,g1]) (H.lt _ _ _ hE).2 (by simp;omega) (by
          simp only [Zah,hln];cases cap with
          | none=>exact hcap.1
          | some k =>
           have h4:ln<=k:=yF q4;have h5:c=k:=hcap;omega) (by
          have:((xs.map λs=>(⟨s.toArray⟩:ByteArray)).map (·.data.toList))=xs:=by
           rw [List.map_map]
           conv=>rhs;rw [<- List.map_id xs]
           exact Zfb λ_ _=>rfl
          rw [this];show (Lib.join xs sep).length<=_;omega)
       rw [Zah,hln] at hjn;exact hjn.mono λe w' ⟨he,hb⟩=>fin xs w' e rfl he hb
   .cases hj
  .obtain rfl:=(Option.some.inj hj).symm;simp only [VR] at hu;subst hu;exact (Tryz.strings_Join_none none 0 _ w).mono λe w' ⟨he,hb⟩=>fin [] w' e rfl he (hb ▸ Below.refl _ _)
  .cases hj
end Go.Ev
namespace Go.Ev
open Go Go.Proofs
def zi4 (J:Nat->List AV->T Blk->Option (AV×T Blk)) (f:Nat) (args:List AV) (res:AV):Bool:=match (vZ (λ_=>false) J tbl 1000 60).fn f (.of f) args .e .z endK with
 | .ok v=>aI v res
 | .no _=>false
theorem zgt {J:Nat->List AV->T Blk->Option (AV×T Blk)} {f:Nat} {args:List AV} {res:AV} {B:Nat} (hJ:∀ B,JOk Tryz.prog B J) (ha:nns args=true) (h:zi4 J f args res=true):Pure Tryz.prog B f args (· = res):=by
 unfold zi4 at h;cases hq:(vZ (λ_=>false) J tbl 1000 60).fn f (.of f) args .e .z endK with
 | no n=>rw [hq] at h;cases h
 | ok v =>
  rw [hq] at h;have e:=vG h;subst e;exact yY zQ mixed hJ ha hq
end Go.Ev
namespace Go.Ev
def bv (b:Nat):List Nat->Nat
 | []=>0
 | x::l=>x+b*bv b l
theorem qJ (b:Nat):∀ l m:List Nat,bv b (l++m)=bv b l+b ^ l.length*bv b m
 | [],m=>by simp [bv]
 | x::l,m=>by
  rw [Zca,bv,qJ b l m,bv,Zbb,Zde,Zei,Zcq,Zbu (b ^ l.length) b,Zec]
theorem cE (b:Nat) (l:List Nat) (x:Nat):bv b (l++[x])=bv b l+b ^ l.length*x:=by
 rw [qJ];simp [bv]
def Dg (b:Nat) (l:List Nat):Prop:=∀ x∈l,x<b
theorem zc9 {b:Nat} (hb:0<b):∀ {l:List Nat},Dg b l->bv b l<b ^ l.length
 | [],_=>by simp [bv]
 | x::l,h=>by
  have h1:=zc9 hb (l:=l) λy hy=>h y (by simp [hy]);have h2:=h x (by simp);rw [bv,Zbb,Zde,Zbu (b ^ l.length) b];have h3:b*(bv b l+1)<=b*b ^ l.length:=Zdq b h1;rw [Zei,Zby] at h3;omega
def Nm (l:List Nat):Prop:=l.getLast? ≠ some 0
def dg (b:Nat) (z:Nat):List Nat:=if h:z=0\/b<2 then [] else z%b::dg b (z / b)
termination_by z
decreasing_by
 have h1:z≠0:=λq=>h (.inl q);have h2:¬ b<2:=λq=>h (.inr q);exact Nat.div_lt_self (Zfg h1) (by omega)
theorem gM (b:Nat):dg b 0=[]:=by rw [dg];simp
theorem kN {b z:Nat} (hb:2<=b) (hz:z≠0):dg b z=z%b::dg b (z / b):=by
 rw [dg,dif_neg (by omega)]
theorem qB {b:Nat} (hb:2<=b) (z:Nat):bv b (dg b z)=z/\Dg b (dg b z)/\Nm (dg b z):=by
 induction z using Nat.strongRecOn with
 | ind z ih =>
  by_cases hz:z=0
  .subst hz;rw [gM];exact ⟨rfl,λx hx=>by simp at hx,by simp [Nm]⟩
  .obtain ⟨h1,h2,h3⟩:=ih (z / b) (Nat.div_lt_self (Zfg hz) (by omega));rw [kN hb hz];refine ⟨?_,?_,?_⟩
   .rw [bv,h1];exact Nat.mod_add_div z b
   .intro x hx;rcases List.mem_cons.1 hx with rfl | hx
    .exact Zdk _ (by omega)
    .exact h2 x hx
   .unfold Nm at *
    by_cases hd:z / b=0
    .rw [hd,gM];have:z<b:=by
      rcases Nat.div_eq_zero_iff.1 hd with q | q
      .omega
      .exact q
     simp [Zch this];exact hz
    .rw [kN hb hd] at h3 ⊢;rw [List.getLast?_cons_cons];exact h3
theorem bI {b:Nat} (hb:2<=b):∀ {l:List Nat},Dg b l->Nm l->l=dg b (bv b l)
 | [],_,_=>by rw [bv,gM]
 | x::l,h,hn=>by
  have hx:=h x (by simp);have hl:Dg b l:=λy hy=>h y (by simp [hy]);have hnl:Nm l:=by
   unfold Nm at *
   cases l with
   | nil=>simp
   | cons y l=>rw [List.getLast?_cons_cons] at hn;exact hn
  have ih:=bI hb hl hnl;have hz:bv b (x::l)≠0:=by
   rw [bv];intro q;have hx0:x=0:=by omega
   have hv:bv b l=0:=by
    have:b*bv b l=0:=by omega
    rcases Nat.mul_eq_zero.1 this with q | q
    .omega
    .exact q
   rw [hv,gM] at ih;subst ih;subst hx0;simp [Nm] at hn
  rw [kN hb hz,bv];have e1:(x+b*bv b l)%b=x:=by rw [Nat.add_mul_mod_self_left,Zch hx]
  have e2:(x+b*bv b l) / b=bv b l:=by rw [Nat.add_mul_div_left _ _ (by omega),Zes hx,Zbe]
  rw [e1,e2,<- ih]
theorem vF {b:Nat} {l:List Nat} {i x:Nat} (h:l[i]? = some x):bv b (l.take (i+1))=bv b (l.take i)+b ^ i*x:=by
 have hi:i<l.length:=(List.getElem?_eq_some_iff.1 h).1;rw [Zat,h];show bv b (l.take i++[x])=_;rw [cE,Zai,Zbp (by omega)]
theorem zwh {U V q r:Nat} (h:U=q*V+r) (hr:r<V):U / V=q/\U%V=r:=by
 have hv:0<V:=by omega
 subst h;refine ⟨?_,?_⟩
 .rw [Zdc,Nat.add_mul_div_right _ _ hv,Zes hr,Zbe]
 .rw [Zdc,Nat.add_mul_mod_self_right,Zch hr]
end Go.Ev
namespace Go.Ev
open Go Go.Proofs
variable {B:Nat}
set_option maxRecDepth 100000
theorem yA {B:Nat}:mZ Tryz.prog B Prop:=za7 mixed
abbrev U (m:Nat):AV:=.int .u64 (m:Int)
def encW (l:List Nat):AV:=.lst 1 l.length (l.map U)
theorem zpw {z:Int} (h:0<=z/\z<18446744073709551616):IntKind.wrap .u64 z=z:=by
 have e:IntKind.wrap .u64 z=z%18446744073709551616:=by
  unfold IntKind.wrap;first | rfl | simp [IntKind.bits,IntKind.signed] | skip
 rw [e];omega
theorem zpx {m:Nat}:IntKind.wrap .u64 (m:Int)=((m%18446744073709551616:Nat):Int):=by
 have e:IntKind.wrap .u64 (m:Int)=(m:Int)%18446744073709551616:=by
  unfold IntKind.wrap;first | rfl | simp [IntKind.bits,IntKind.signed] | skip
 rw [e];omega
theorem zpy {z:Int}:IntKind.wrap .u64 z=z%18446744073709551616:=by
 unfold IntKind.wrap;first | rfl | simp [IntKind.bits,IntKind.signed]
theorem uAdd {a b:Nat} {K:AV->OP}:zb .add .int (U a) (U b) K=K (U ((a+b)%18446744073709551616)):=by
 rw [zty,show (a:Int)+(b:Int)=((a+b:Nat):Int) by omega,zpx]
theorem uMul {a b:Nat} {K:AV->OP}:zb .mul .int (U a) (U b) K=K (U ((a*b)%18446744073709551616)):=by
 rw [zzm,show (a:Int)*(b:Int)=((a*b:Nat):Int) by simp,zpx]
theorem uShr {m n:Nat} {k:IntKind} {K:AV->OP} (hn:n<=64):zb .shr .int (U m) (.int k (n:Int)) K=K (U (m / 2 ^ n)):=by
 have e:zb .shr .int (U m) (.int k (n:Int)) K=(bif ilt (n:Int) 0 then Out.no 5 else qi ((m:Int).fdiv (2 ^ (min (n:Int).toNat IntKind.u64.bits))) λz=>K (.int .u64 z)):=by cases k <;> rfl
 have h0:ilt (n:Int) 0=false:=rfl;rw [e,h0,cond_false,jM];have hb:IntKind.u64.bits=64:=rfl;rw [hb,Zfq,Zbp hn,Int.fdiv_eq_ediv_of_nonneg _ (Zep (by omega))]
 congr 2
theorem zbn {m:Nat} {k:IntKind} {K:AV->OP}:zb .shr .int (U m) (.int k 32) K=K (U (m / 4294967296)):=uShr (n:=32) (by omega)
theorem uAnd {m:Nat} {K:AV->OP} (hm:m<18446744073709551616):zb .and .int (U m) (.int .u64 4294967295) K=K (U (m%4294967296)):=by
 have e:zb .and .int (U m) (U 4294967295) K=qi (IntKind.u64.wrap ((BitVec.ofInt 64 (m:Int) &&& BitVec.ofInt 64 ((4294967295:Nat):Int)).toNat:Int)) λz=>K (.int .u64 z):=rfl;have h1:(BitVec.ofInt 64 (m:Int) &&& BitVec.ofInt 64 ((4294967295:Nat):Int)).toNat=m%4294967296:=by
  rw [BitVec.ofInt_natCast,BitVec.ofInt_natCast,BitVec.toNat_and,BitVec.toNat_ofNat,BitVec.toNat_ofNat,Zch hm];exact Nat.and_two_pow_sub_one_eq_mod m 32
 have e2:zb .and .int (U m) (.int .u64 4294967295) K=zb .and .int (U m) (U 4294967295) K:=rfl;rw [e2,e,jM,h1,zpw (by omega)]
theorem uLeq {a b:Nat} {K:AV->OP}:zb .leq .int (U a) (U b) K=K (.bool (decide (a<=b))):=by rw [nV];simp only [Int.ofNat_le]
theorem uGeq {a b:Nat} {K:AV->OP}:zb .geq .int (U a) (U b) K=K (.bool (decide (b<=a))):=by rw [fC];simp only [Int.ofNat_le]
theorem uEql {a b:Nat} {K:AV->OP}:zb .eql .int (U a) (U b) K=K (.bool (decide (a=b))):=by rw [wm];simp only [Int.natCast_inj]
theorem zzw {a:Nat} {K:AV->OP}:zb .eql .int (U a) (.int .u64 0) K=K (.bool (decide (a=0))):=uEql (b:=0)
theorem zpz {k:IntKind} {z:Int} {m:Nat} {K:AV->OP} (h:z=(m:Int)) (hm:m<18446744073709551616):kI .u64 (.int k z) K=K (U m):=by
 show qi (uS .u64 z) (λz=>K (.int .u64 z))=_;rw [jM,uW,zpw (by omega),h]
theorem zp0 {k:IntKind} {z:Int} {K:AV->OP} (h : -9223372036854775808<=z/\z<0):kI .u64 (.int k z) K=K (U (z+18446744073709551616).toNat):=by
 show qi (uS .u64 z) (λz=>K (.int .u64 z))=_;rw [jM,uW,zpy,show z%18446744073709551616=((z+18446744073709551616).toNat:Int) by omega]
theorem zej {k:IntKind} {z:Int} {K:AV->OP} (h : -9223372036854775808<=z/\z<=9223372036854775807):kI .i64 (.int k z) K=K (I z):=by
 show qi (uS .i64 z) (λz=>K (.int .i64 z))=_;rw [jM,uW,qH h]
theorem uNeg {z:Int} {K:AV->OP} (h : -9223372036854775807<=z/\z<=9223372036854775808):sNeg (I z) K=K (I (-z)):=by
 show qi (uS .i64 (0-z)) (λz=>K (.int .i64 z))=_;rw [jM,uW,qH (by omega),Int.zero_sub]
theorem zzx {K:AV->OP}:sNeg (I (-9223372036854775808)) K=K (I (-9223372036854775808)):=nr rfl
theorem zzy (l:List Nat):∀ v∈l.map U,nu v=true:=λv hv=>by obtain ⟨x,_,rfl⟩:=List.mem_map.1 hv;rfl
theorem zmb (l:List Nat):nu (encW l)=true:=xK (zzy l)
theorem uGet {l:List Nat} {i x:Nat} (h:l[i]? = some x):(l.map U)[i]? = some (U x):=by rw [List.getElem?_map,h];rfl
theorem uLen {l:List Nat} {K:AV->OP}:sLen (encW l) K=K (I l.length):=zX ..
theorem uIx {l:List Nat} {i:Nat} {j:Int} {op:AV->OP} (hj:j=(i:Int)) (hi:i<l.length):zK 1 (encW l) (I j) op=op (.fp ((l.map U).drop (i*1))):=fF hj hi
theorem uLd {l:List Nat} {i x:Nat} {h:T Blk} {op:AV->OP} (hx:l[i]? = some x):zH (.fp ((l.map U).drop (i*1))) h op=op (U x):=ldL (uGet hx)
theorem Hp.zda {h0 h:T Blk} {nx id:Pa} {L:List Ob} {l:List AV} (H:Hp h0 h nx (.arr id l::L)):Hp h0 (T.set .no .no id h) nx L:=by
 have hid:T.get .no id h0=.no:=H.off id (by simp [Ob.names]);have H3:=H.drop;have nd:=H.nd;simp only [Zce,Ob.names] at nd;have hni:id∉L.flatMap Ob.names:=λhi=>(List.nodup_append.1 nd).2.2 id (by simp) id hi rfl;have other:∀ j,j≠id->T.get .no j (T.set .no .no id h)=T.get .no j h:=λj hj=>T.zn _ _ _ _ _ hj;refine ⟨λj hj => ?_,λy hy => ?_,H3.off,H3.nd,λj hj => ?_⟩
 .rw [other j (by rintro rfl;exact hj hid)];exact H.keep j hj
 .exact (H3.own y hy).congr λm hm=>other m (by rintro rfl;exact hni (List.mem_flatMap.2 ⟨y,hy,hm⟩))
 .by_cases e:j=id
  .subst e;exact T.get_set_same _ _ _ _
  .rw [other j e];exact H.fr j hj
theorem zwi {a b:Nat} (ha:a<18446744073709551616) (hb:b<18446744073709551616):Pure Tryz.prog B 263 [U a,U b] (· = .tup [U (a*b / 18446744073709551616),U (a*b%18446744073709551616)]):=by
 intro p h nx K hK;refine zM zQ yA 10 λhf => ?_;rw [jf.go,jf.t23,zA,jf.zw,zA,jf.zu,uAnd ha,zA,jf.jd,zbn,zA,jf.pu,uAnd hb,zA,jf.fG,zbn];have ha0:a%4294967296<4294967296:=by omega
 have ha1:a / 4294967296<4294967296:=by omega
 have hb0:b%4294967296<4294967296:=by omega
 have hb1:b / 4294967296<4294967296:=by omega
 have ea:a=a / 4294967296*4294967296+a%4294967296:=by omega
 have eb:b=b / 4294967296*4294967296+b%4294967296:=by omega
 generalize a / 4294967296=a1 at *
 generalize a%4294967296=a0 at *
 generalize b / 4294967296=b1 at *
 generalize b%4294967296=b0 at *
 have m00:a0*b0<=4294967295*4294967295:=Zcb (by omega) (by omega);have m10:a1*b0<=4294967295*4294967295:=Zcb (by omega) (by omega);have m01:a0*b1<=4294967295*4294967295:=Zcb (by omega) (by omega);have m11:a1*b1<=4294967295*4294967295:=Zcb (by omega) (by omega);have hp:a*b=a1*b1*18446744073709551616+(a1*b0+a0*b1)*4294967296+a0*b0:=by
  rw [ea,eb];simp only [Zbd,Zei];have e1:a1*4294967296*(b1*4294967296)=a1*b1*18446744073709551616:=by
   rw [Nat.mul_mul_mul_comm]
  have e2:a1*4294967296*b0=a1*b0*4294967296:=by rw [Nat.mul_right_comm]
  have e3:a0*(b1*4294967296)=a0*b1*4294967296:=by rw [Zec]
  rw [e1,e2,e3];omega
 rw [zA,jf.ny,uMul,Zch (show a0*b0<18446744073709551616 by omega),zA,jf.ku,uMul,Zch (show a1*b0<18446744073709551616 by omega),zbn,uAdd,Zch (show a1*b0+a0*b0 / 4294967296<18446744073709551616 by omega),zA,jf.fe,uAnd (by omega),zA,jf.fE,zbn,zA,jf.nP,uMul,Zch (show a0*b1<18446744073709551616 by omega),uAdd,zA,jf.nX,uMul,Zch (show a1*b1<18446744073709551616 by omega),uAdd,zbn,uAdd,zA,jf.dx,uMul];simp only [zF,zN];rw [jf.ret];refine hK _ ?_ hf;rw [hp]
 generalize a0*b0=p00 at *
 generalize a1*b0=p10 at *
 generalize a0*b1=p01 at *
 generalize a1*b1=p11 at *
 congr 3
 congr 1
 omega
theorem zek {z:Int} (h : -9223372036854775808<=z/\z<=9223372036854775807):Pure Tryz.prog B 264 [I z] (· = U z.natAbs):=by
 refine zT λhh nx K H0 hK=>zM zQ yA 100 λhf => ?_;have ret:∀ {m:Nat},m=z.natAbs->K (U m) hh nx=.ok True:=λe=>hK _ _ _ _ _ H0 (zV rfl) (by rw [e]);rw [xu.go,xu.t9,zA,xu.zw,zA,zA,xu.zu,jk,zB,xu.v2];by_cases c:z<0
 .rw [Zac c,zD,zA,xu.jd];by_cases d:z = -9223372036854775808
  .subst d;rw [zzx,zp0 (by omega)];simp only [zF,zN];rw [xu.ret];exact ret (by decide)
  .rw [uNeg (by omega),zpz (m:=z.natAbs) (by omega) (by omega)];simp only [zF,zN];rw [xu.ret];exact ret rfl
 .rw [Zab c,zC,zE,zA,xu.ku,zpz (m:=z.natAbs) (by omega) (by omega)];simp only [zF,zN];rw [xu.ret];exact ret rfl
theorem zsd {l:List Nat} {k x:Nat} (h:l[k]? = some x) (hx:x≠0):Nm (l.take (k+1)):=by
 unfold Nm;rw [Zat,h];show (l.take k++[x]).getLast? ≠ _;rw [List.getLast?_concat];intro q;cases q;exact hx rfl
theorem Dg.take {b n:Nat} {l:List Nat} (h:Dg b l):Dg b (l.take n):=λx hx=>h x (Zeb hx)
def nR (z:Int):Prop := -9223372036854775807<=z/\z<=9223372036854775807
def dm (s w:AV) (z:Int):Prop:=s=I z/\w=.za/\nR z
def qp (v:AV) (z:Int):Prop:=∃ s w,v=.agg [s,w]/\dm s w z
theorem u3 {N:Pa->Prop} {O:AV->Prop} {hh:T Blk} {l:List AV} (h:∀ v∈l,nu v=true):Frz True N O hh (.agg l) (.agg l) :=
 .agg _ _ rfl (List.all_eq_true.2 λv hv=>nu.uo (h v hv)) λi v v' h1 h2=>by rw [h1] at h2;cases h2;exact zV (h v (Zad h1))
theorem dm.fix {s w:AV} {z:Int} (h:dm s w z):∀ v∈[s,w],nu v=true:=by
 intro v hv;simp only [Zao,List.not_mem_nil,or_false] at hv;obtain ⟨rfl,rfl,_⟩:=h;rcases hv with rfl | rfl <;> rfl
theorem qp.frz {v:AV} {z:Int} (h:qp v z) {N:Pa->Prop} {O:AV->Prop} {hh:T Blk}:Frz True N O hh v v:=by
 obtain ⟨s,w,rfl,h⟩:=h;exact u3 h.fix
theorem yR {z:Int} (h:nR z):qp (.agg [I z,.za]) z:=⟨_,_,rfl,rfl,rfl,h⟩
theorem u9 {K:AV->OP}:zb .eql (.nil .sl) .za .za K=K (.bool true):=nr rfl
theorem zp1 {K:AV->OP}:zb .neq (.nil .sl) .za .za K=K (.bool false):=nr rfl
theorem zwj {a b:Bool} {K:AV->OP}:zb .eql .bool (.bool a) (.bool b) K=K (.bool (a==b)):=by cases a <;> cases b <;> exact nr rfl
theorem zwk {a b:Bool} {K:AV->OP}:zb .neq .bool (.bool a) (.bool b) K=K (.bool (a != b)):=by cases a <;> cases b <;> exact nr rfl
theorem uP {z:Int} {K:AV->OP}:j6 [(I 0),.za] [(0,1,I z)] K=K (.agg [I z,.za]):=nr rfl
theorem zp2 {z:Int} (h:nR z):Pure Tryz.prog B 187 [I z] (λv=>qp v z):=by
 refine zT λhh nx K H0 hK=>zM zQ yA 100 λhf => ?_;rw [fq.go,fq.t3,zA,fq.zw];refine H0.alloc λp h1 nx1 H1 => ?_;rw [zA,fq.zu,uP];refine H1.jb (l2:=[I z,.za]) (k:=0) rfl rfl rfl λh4 H4 => ?_;simp only [zF,zN];rw [fq.ret,H4.zm (k:=0) (n:=2) rfl rfl];exact hK _ _ _ _ _ H4 (yR h).frz (yR h)
def gX (z:Int):Int:=if z<0 then -1 else if 0<z then 1 else 0
theorem zse {z:Int} {K:AV->OP}:sMin false (I 1) [I z] K=K (I (if z<1 then z else 1)):=by
 have e:sMin false (I 1) [I z] K=K (I (bif ilt z 1 then z else 1)):=nr rfl;rw [e,wS];by_cases c:z<1
 .rw [if_pos c,Zac c];rfl
 .rw [if_neg c,Zab c];rfl
theorem zsf {z:Int} {K:AV->OP}:sMin true (I (-1)) [I z] K=K (I (if -1<z then z else -1)):=by
 have e:sMin true (I (-1)) [I z] K=K (I (bif ilt (-1) z then z else -1)):=nr rfl;rw [e,wS];by_cases c : -1<z
 .rw [if_pos c,Zac c];rfl
 .rw [if_neg c,Zab c];rfl
theorem dG {v:AV} {z:Int} (hv:qp v z):Pure Tryz.prog B 194 [v] (· = I (gX z)):=by
 obtain ⟨s,w,rfl,rfl,rfl,hv⟩:=hv;refine zT λh nx K H0 hK=>zM zQ yA 100 λhf => ?_;rw [fH.go,fH.t3,zA,fH.zw];refine H0.box (l:=[I z,.za]) rfl λpa h1 nx1 H1 => ?_;have hn:(if -1<(if z<1 then z else 1) then (if z<1 then z else 1) else -1)=gX z:=by
  unfold gX
  (repeat' split) <;> omega
 rw [zA,fH.zu,sFx,H1.load (k:=0) (i:=0+0) rfl rfl,zse,zsf,hn];simp only [zF,zN];rw [fH.ret];exact hK _ _ _ _ _ H1 (zV rfl) rfl
theorem xE {v:AV} {z:Int} (hv:qp v z):Pure Tryz.prog B 193 [v] (λv=>qp v (-z)):=by
 obtain ⟨s,w,rfl,rfl,rfl,hv⟩:=hv;unfold nR at hv;refine zT λh nx K H0 hK=>zM zQ yA 100 λhf => ?_;rw [mq.go,mq.t11,zA,mq.zw];refine H0.box (l:=[I z,.za]) rfl λpa h1 nx1 H1 => ?_;refine H1.alloc λp h2 nx2 H2 => ?_;rw [zA,zA,mq.zu,sFx,H2.load (k:=1) (i:=0+1) (v:=.za) rfl rfl,u9];simp only [yO];rw [sFx,H2.load (k:=1) (i:=0+0) rfl rfl,bq,zY,zB,mq.v5,Zab (by omega),Zan,zD,zA,mq.jd,sFx,H2.load (k:=1) (i:=0+0) rfl rfl,uNeg (by omega),uP];refine H2.jb (l2:=[I (-z),.za]) (k:=0) rfl rfl rfl λh4 H4 => ?_;simp only [zF,zN];rw [mq.ret,H4.zm (k:=0) (n:=2) rfl rfl];exact hK _ _ _ _ _ H4 (yR (by unfold nR;omega)).frz (yR (by unfold nR;omega))
theorem zi5 {a b:Int} {K:AV->OP}:zb .add .int (I a) (I b) K=K (I (IntKind.wrap .i64 (a+b))):=zty
theorem zgv {a b:Int} (ha : -9223372036854775808<=a/\a<=9223372036854775807) (hb : -9223372036854775808<=b/\b<=9223372036854775807) :
  (decide (a<IntKind.wrap .i64 (a+b))==decide (0<b))=true↔(-9223372036854775808<=a+b/\a+b<=9223372036854775807):=by
 have e:∀ z:Int,IntKind.wrap .i64 z=(z+9223372036854775808)%18446744073709551616-9223372036854775808:=by
  intro z;rw [IntKind.wrap_i64] <;> omega
 rw [e];by_cases c:0<b
 .rw [Zac c];by_cases d:a+b<=9223372036854775807
  .rw [Zac (by omega)];simp;omega
  .rw [Zab (by omega)];simp;omega
 .rw [Zab c];by_cases d : -9223372036854775808<=a+b
  .rw [Zab (by omega)];simp;omega
  .rw [Zac (by omega)];simp;omega
theorem zka {va vb:AV} {a b:Int} (hva:qp va a) (hvb:qp vb b) (hs:nR (a+b)):Pure Tryz.prog B 197 [va,vb] (λv=>qp v (a+b)):=by
 obtain ⟨s,w,rfl,rfl,rfl,hva⟩:=hva;obtain ⟨s',w',rfl,rfl,rfl,hvb⟩:=hvb;unfold nR at hva hvb;have hs':=hs;unfold nR at hs';refine zT λh nx K H0 hK=>zM zQ yA 100 λhf => ?_;rw [qm.go,qm.t30,zA,qm.zw];refine H0.box (l:=[I a,.za]) rfl λpa h1 nx1 H1 => ?_;refine H1.box (l:=[I b,.za]) rfl λpb h2 nx2 H2 => ?_;refine H2.alloc λp h3 nx3 H3 => ?_;rw [zA,zA,qm.zu,sFx,H3.load (k:=2) (i:=0+1) (v:=.za) rfl rfl,u9];simp only [yO];rw [sFx,H3.load (k:=1) (i:=0+1) (v:=.za) rfl rfl,u9,zY,zB,qm.v10,zD,zA,qm.jd,sFx,H3.load (k:=2) (i:=0+0) rfl rfl,sFx,H3.load (k:=1) (i:=0+0) rfl rfl,zi5,zA,qm.pu,sFx,H3.load (k:=2) (i:=0+0) rfl rfl,di,sFx,H3.load (k:=1) (i:=0+0) rfl rfl,di,zwj,zB,qm.v11];have hw : -9223372036854775808<=a+b/\a+b<=9223372036854775807:=by omega
 rw [(zgv (a:=a) (b:=b) (by omega) (by omega)).2 hw,zD,zA,qm.fG,qH hw,uP];simp only [zF,zN];refine H3.jb (l2:=[I (a+b),.za]) (k:=0) rfl rfl rfl λh4 H4 => ?_;rw [qm.ret,H4.zm (k:=0) (n:=2) rfl rfl];exact hK _ _ _ _ _ H4 (yR hs).frz (yR hs)
theorem vQ {va vb:AV} {a b:Int} (hva:qp va a) (hvb:qp vb b) (hs:nR (a*b)):Pure Tryz.prog B 198 [va,vb] (λv=>qp v (a*b)):=by
 obtain ⟨s,w,rfl,rfl,rfl,hva⟩:=hva;obtain ⟨s',w',rfl,rfl,rfl,hvb⟩:=hvb;unfold nR at hva hvb;have hs':=hs;unfold nR at hs';have hab:a.natAbs*b.natAbs<=9223372036854775807:=by rw [<- Zcc];omega
 refine zT λh nx K H0 hK=>zM zQ yA 100 λhf => ?_;rw [gy.go,gy.t24,zA,gy.zw];refine H0.box (l:=[I a,.za]) rfl λpa h1 nx1 H1 => ?_;refine H1.box (l:=[I b,.za]) rfl λpb h2 nx2 H2 => ?_;refine H2.alloc λp h3 nx3 H3 => ?_;have hsgn:(if (decide (a<0) != decide (b<0))=true then -((a.natAbs*b.natAbs:Nat):Int) else ((a.natAbs*b.natAbs:Nat):Int))=a*b:=by
  rw [<- Zcc];by_cases c1:a<0 <;> by_cases c2:b<0
  .rw [Zac c1,Zac c2,if_neg (by decide)];have:=Zdw (show a<=0 by omega) (show b<=0 by omega);omega
  .rw [Zac c1,Zab c2,if_pos (by decide)];have:=Int.mul_nonpos_of_nonpos_of_nonneg (show a<=0 by omega) (show 0<=b by omega);omega
  .rw [Zab c1,Zac c2,if_pos (by decide)];have:=Int.mul_nonpos_of_nonneg_of_nonpos (show 0<=a by omega) (show b<=0 by omega);omega
  .rw [Zab c1,Zab c2,if_neg (by decide)];have:=Zgn (show 0<=a by omega) (show 0<=b by omega);omega
 have ret:∀ {h4 nx4 z} {x0 x1 x2 x3 x5 x6 x7 x8 x9 x10 x11 x12 x13:AV},Hp h h4 nx4 [.arr p [I 0,.za],.arr pb [I b,.za],.arr pa [I a,.za]]->z=a*b->(zS 2 (.ptr p 0) (.agg [I z,.za]) h4 nx4 λv2 h3 n4=>zi gy.res K (gy.fr x0 x1 x2 x3 (.ptr p 0) x5 x6 x7 x8 x9 x10 x11 x12 x13) h3 n4)=.ok True:=λH e=>by
  subst e;refine H.jb (l2:=[I (a*b),.za]) (k:=0) rfl rfl rfl λh4 H4 => ?_;rw [gy.ret,H4.zm (k:=0) (n:=2) rfl rfl];exact hK _ _ _ _ _ H4 (yR hs).frz (yR hs)
 rw [zA,zA,gy.zu,sFx,H3.load (k:=2) (i:=0+1) (v:=.za) rfl rfl,u9];simp only [yO];rw [sFx,H3.load (k:=1) (i:=0+1) (v:=.za) rfl rfl,u9,zY,zB,gy.v11,zD,zA,gy.jd,sFx,H3.load (k:=2) (i:=0+0) rfl rfl,sFx,H3.load (k:=1) (i:=0+0) rfl rfl];refine zek (by omega) _ _ _ _ ?_;rintro _ rfl _;rw [H3.load (k:=1) (i:=0+0) rfl rfl,zG,sFx,zG];refine zek (by omega) _ _ _ _ ?_;rintro _ rfl _;refine zwi (by omega) (by omega) _ _ _ _ ?_;rintro _ rfl _;rw [jD,jC,zA,gy.pu,zzw,Zac (Zes (by omega))];simp only [yO];rw [Zch (by omega),show (AV.int .u64 9223372036854775807)=U 9223372036854775807 from rfl,uLeq,zY,zB,gy.v12];rw [Zac hab,zD,zA,zA,gy.fG,sFx,H3.load (k:=2) (i:=0+0) rfl rfl,jk,sFx,H3.load (k:=1) (i:=0+0) rfl rfl,jk,zwk,zB,gy.v13];by_cases c:(decide (a<0) != decide (b<0))=true
 .rw [if_pos c] at hsgn;rw [c,zD,zA,gy.ny,zej (by omega),uNeg (by omega),uP];simp only [zF,zN];exact ret H3 hsgn
 .rw [if_neg c] at hsgn;rw [show (decide (a<0) != decide (b<0))=false by simpa using c,zC,zE,zA,gy.nP,zej (by omega),uP];simp only [zF,zN];exact ret H3 hsgn
theorem zsg {a b:Int} {K:AV->OP} (ha : -9223372036854775808<=a/\a<=9223372036854775807) (hb:1<=b):zb .quo .int (I a) (I b) K=K (I (a.tdiv b)):=by
 have e:zb .quo .int (I a) (I b) K=(bif ieq b 0 then Out.no 5 else qi (IntKind.i64.wrap (a.tdiv b)) λz=>K (.int .i64 z)):=rfl;have h0:ieq b 0=false:=by rw [wT];exact Zab (by omega)
 rw [e,h0,cond_false,jM,Go.IntWalk.i64_quo' a b ⟨ha.1,ha.2,hb⟩]
theorem zsh {a b:Int} {K:AV->OP} (hb:1<=b):zb .rem .int (I a) (I b) K=K (I (a.tmod b)):=by
 have e:zb .rem .int (I a) (I b) K=(bif ieq b 0 then Out.no 5 else qi (a.tmod b) λz=>K (.int .i64 z)):=rfl;have h0:ieq b 0=false:=by rw [wT];exact Zab (by omega)
 rw [e,h0,cond_false,jM]
theorem zbo {a b q r:Int} (hb:0<b) (h:a=q*b+r) (h0:0<=r) (h1:r<b):a / b=q/\a%b=r:=by
 subst h;refine ⟨?_,?_⟩
 .rw [Int.add_comm,Int.add_mul_ediv_right _ _ (by omega),Int.ediv_eq_zero_of_lt h0 h1,Int.zero_add]
 .rw [Int.add_comm,Int.add_mul_emod_self_right,Int.emod_eq_of_lt h0 h1]
theorem zel {a b:Int} (hb:1<=b):(a.tmod b<0->a / b=a.tdiv b-1/\a%b=a.tmod b+b /\ -b<a.tmod b)/\(0<=a.tmod b->a / b=a.tdiv b/\a%b=a.tmod b):=by
 have e:=Int.mul_tdiv_add_tmod a b;have h1:=Zgq a (show 0<b by omega);have h2 : -b<a.tmod b:=by
  have:=Zgq (-a) (show 0<b by omega);rw [Int.neg_tmod] at this;omega
 rw [Int.mul_comm] at e;refine ⟨λh => ?_,λh=>zbo (by omega) e.symm h h1⟩;obtain ⟨c1,c2⟩:=zbo (a:=a) (b:=b) (q:=a.tdiv b-1) (r:=a.tmod b+b) (by omega) (by rw [Int.sub_mul];omega) (by omega) (by omega);exact ⟨c1,c2,h2⟩
theorem zmc {a b:Int} (ha : -9223372036854775807<=a) (hb:1<=b) : -9223372036854775807<=a / b:=by
 refine (Int.le_ediv_iff_mul_le (by omega)).2 ?_;have:=Zdp hb (show (0:Int)<=9223372036854775807 by omega);omega
theorem bU {va vb:AV} {a b:Int} (hva:qp va a) (hvb:qp vb b) (hb:1<=b):Pure Tryz.prog B 201 [va,vb] (λv=>∃ v1 v2,v=.tup [v1,v2]/\qp v1 (a / b)/\qp v2 (a%b)):=by
 obtain ⟨s,w,rfl,rfl,rfl,hva⟩:=hva;obtain ⟨s',w',rfl,rfl,rfl,hvb⟩:=hvb;unfold nR at hva hvb;refine zT λh nx K H0 hK=>zM zQ yA 100 λhf => ?_;rw [jr.go,jr.t29,zA,jr.zw];refine H0.box (l:=[I a,.za]) rfl λpa h1 nx1 H1 => ?_;refine H1.box (l:=[I b,.za]) rfl λpb h2 nx2 H2 => ?_;refine H2.alloc λp h3 nx3 H3 => ?_;refine H3.alloc λq h4 nx4 H4 => ?_;rw [zA,zA,jr.zu,jr.sD,jr.sF,sFx,H4.load (k:=3) (i:=0+1) (v:=.za) rfl rfl,u9];simp only [yO];rw [sFx,H4.load (k:=2) (i:=0+1) (v:=.za) rfl rfl,u9,zY,jr.tO,jr.rU];simp only [yO];rw [sFx,H4.load (k:=3) (i:=0+0) rfl rfl,bq,zY,zB,jr.v15];rw [Zab (by omega),Zan,zD,zA,jr.jd,sFx,H4.load (k:=3) (i:=0+0) rfl rfl,sFx,H4.load (k:=2) (i:=0+0) rfl rfl,zsg (by omega) hb,sFx,H4.load (k:=3) (i:=0+0) rfl rfl,sFx,H4.load (k:=2) (i:=0+0) rfl rfl,zsh hb,zA,zA,jr.pu,jk,zB,jr.v16];obtain ⟨f1,f2⟩:=zel (a:=a) hb;have hq2 : -9223372036854775807<=a.tdiv b/\a.tdiv b<=9223372036854775807:=by
  have:=Int.natAbs_tdiv_le_natAbs a b;omega
 have hmod:=Int.emod_nonneg a (show b≠0 by omega);have hmod2:=Int.emod_lt_of_pos a (show 0<b by omega);have hrt:=Int.mul_tdiv_add_tmod a b;have hr1 : -b<a.tmod b:=by
  by_cases cr:a.tmod b<0
  .exact (f1 cr).2.2
  .omega
 have hr2:=Zgq a (show 0<b by omega);have hqm : -9223372036854775807<=a / b:=zmc (by omega) hb;by_cases cr:a.tmod b<0
 .obtain ⟨g1,g2,g3⟩:=f1 cr;rw [Zac cr,zD,jr.fG,dh (by omega),sFx,H4.load (k:=2) (i:=0+0) rfl rfl,ug (by omega),zA,jr.fe,uP,uP];simp only [zF,zN];refine H4.jb (l2:=[I (a.tdiv b-1),.za]) (k:=1) rfl rfl rfl λh6 H6 => ?_;refine H6.jb (l2:=[I (a.tmod b+b),.za]) (k:=0) rfl rfl rfl λh7 H7 => ?_;rw [jr.ret,H7.zm (k:=1) (n:=2) rfl rfl,H7.zm (k:=0) (n:=2) rfl rfl];exact hK _ _ _ _ _ H7 (gD (yR (by unfold nR;omega)).frz (yR (by unfold nR;omega)).frz) ⟨_,_,rfl,by rw [g1];exact yR (by unfold nR;omega),by rw [g2];exact yR (by unfold nR;omega)⟩
 .obtain ⟨g1,g2⟩:=f2 (by omega);rw [Zab cr,zC,zE,zA,jr.fe,uP,uP];simp only [zF,zN];refine H4.jb (l2:=[I (a.tdiv b),.za]) (k:=1) rfl rfl rfl λh6 H6 => ?_;refine H6.jb (l2:=[I (a.tmod b),.za]) (k:=0) rfl rfl rfl λh7 H7 => ?_;rw [jr.ret,H7.zm (k:=1) (n:=2) rfl rfl,H7.zm (k:=0) (n:=2) rfl rfl];exact hK _ _ _ _ _ H7 (gD (yR (by unfold nR;omega)).frz (yR (by unfold nR;omega)).frz) ⟨_,_,rfl,by rw [g1];exact yR (by unfold nR;omega),by rw [g2];exact yR (by unfold nR;omega)⟩
theorem zkb {va vb:AV} {a b c:Int} (hva:qp va a) (hvb:qp vb b) (hb:b≠0) (hc:a=c*b):Pure Tryz.prog B 259 [va,vb] (λv=>qp v c):=by
 have hva0:=hva;have hvb0:=hvb;obtain ⟨s,w,rfl,hva⟩:=hva;obtain ⟨s',w',rfl,hvb⟩:=hvb;refine zT λh nx K H0 hK=>zM zQ yA 100 λhf => ?_;rw [qh.go,qh.t10,zA,qh.zw];refine H0.box (l:=[s,w]) rfl λpa h1 nx1 H1 => ?_;refine H1.box (l:=[s',w']) rfl λpb h2 nx2 H2 => ?_;refine H2.alloc λp h3 nx3 H3 => ?_
 have tail:∀ {h5:T Blk} {nx5:Pa} {s1 w1 s2 w2:AV} {a' b':Int} {x5 x6:AV},Hp h h5 nx5 [.arr p [I 0,.za],.arr pb [s2,w2],.arr pa [s1,w1]]->dm s1 w1 a'->dm s2 w2 b'->1<=b'->a'=c*b' ->
   IR.run qh.t8 (CS Tryz.prog B) 100 (fnO qh.res K) (zi qh.res K) (qh.fr (.agg [s,w]) (.agg [s',w']) (.ptr pa 0) (.ptr pb 0) (.ptr p 0) x5 x6) h5 nx5=.ok True:=by
  intro h5 nx5 s1 w1 s2 w2 a' b' x5 x6 H i1 i2 hb' e;rw [qh.t8,zA,qh.ny,H.zm (k:=2) (n:=2) rfl rfl,H.zm (k:=1) (n:=2) rfl rfl];refine bU ⟨_,_,rfl,i1⟩ ⟨_,_,rfl,i2⟩ hb' _ _ _ _ ?_;rintro _ ⟨v1,v2,rfl,⟨s3,w3,rfl,i3⟩,⟨s4,w4,rfl,i4⟩⟩ _;rw [jD,jC];refine H.alloc λp1 h6 nx6 H6 => ?_;refine H6.alloc λq1 h7 nx7 H7 => ?_;refine H7.jb (l2:=[s3,w3]) (k:=1) rfl rfl rfl λh8 H8 => ?_;refine H8.jb (l2:=[s4,w4]) (k:=0) rfl rfl rfl λh9 H9 => ?_;rw [zA,qh.ku,H9.zm (k:=1) (n:=2) rfl rfl];refine H9.jb (l2:=[s3,w3]) (k:=2) rfl rfl rfl λh10 H10 => ?_;simp only [zF,zN];rw [qh.ret,H10.zm (k:=2) (n:=2) rfl rfl];have:a' / b'=c:=by rw [e];exact Int.mul_ediv_cancel _ (by omega)
  rw [this] at i3;exact hK _ _ _ _ _ H10 (u3 i3.fix) ⟨_,_,rfl,i3⟩
 rw [zA,zA,qh.zu,H3.zm (k:=1) (n:=2) rfl rfl];refine dG hvb0 _ _ _ _ ?_;rintro _ rfl _;rw [jk,zB,qh.v6];by_cases cb:b<0
 .rw [Zac (by unfold gX;rw [if_pos cb];decide),zD,qh.jd,H3.zm (k:=2) (n:=2) rfl rfl,H3.zm (k:=1) (n:=2) rfl rfl];refine xE hva0 _ _ _ _ ?_;rintro _ ⟨s3,w3,rfl,i3⟩ _;rw [H3.zm (k:=1) (n:=2) rfl rfl,zG];refine xE hvb0 _ _ _ _ ?_;rintro _ ⟨s4,w4,rfl,i4⟩ _;refine H3.jb (l2:=[s3,w3]) (k:=2) rfl rfl rfl λh8 H8 => ?_;refine H8.jb (l2:=[s4,w4]) (k:=1) rfl rfl rfl λh9 H9 => ?_;exact tail H9 i3 i4 (by omega) (by rw [hc,Int.mul_neg])
 .rw [Zab (by unfold gX;rw [if_neg cb];split <;> decide),zC,zE];exact tail H3 hva hvb (by omega) hc
theorem dm.sgn {s w:AV} {z:Int} (h:dm s w z):∃ n,s=I n/\(n<0↔z<0):=by
 obtain ⟨rfl,_⟩:=h;exact ⟨_,rfl,Iff.rfl⟩
theorem zgw {v:AV} {z:Int} (hv:qp v z):Pure Tryz.prog B 299 [v] (λv=>qp v (z.natAbs:Int)):=by
 have hv0:=hv;obtain ⟨s,w,rfl,hv⟩:=hv;obtain ⟨n,rfl,hn⟩:=hv.sgn;refine zT λh nx K H0 hK=>zM zQ yA 100 λhf => ?_;rw [vg.go,vg.t9,zA,vg.zw];refine H0.box (l:=[I n,w]) rfl λpa h1 nx1 H1 => ?_;refine H1.alloc λp h2 nx2 H2 => ?_;rw [zA,zA,vg.zu,sFx,H2.load (k:=1) (i:=0+0) rfl rfl,jk,zB,vg.v3];by_cases c:n<0
 .rw [Zac c,zD,zA,vg.jd,H2.zm (k:=1) (n:=2) rfl rfl];refine xE hv0 _ _ _ _ ?_;rintro _ ⟨s',w',rfl,hc⟩ _;refine H2.jb (l2:=[s',w']) (k:=0) rfl rfl rfl λh4 H4 => ?_;simp only [zF,zN];rw [vg.ret,H4.zm (k:=0) (n:=2) rfl rfl];have:=hn.1 c;rw [show -z=(z.natAbs:Int) by omega] at hc;exact hK _ _ _ _ _ H4 (u3 hc.fix) ⟨_,_,rfl,hc⟩
 .rw [Zab c,zC,zE,zA,vg.ku,H2.zm (k:=1) (n:=2) rfl rfl];refine H2.jb (l2:=[I n,w]) (k:=0) rfl rfl rfl λh4 H4 => ?_;simp only [zF,zN];rw [vg.ret,H4.zm (k:=0) (n:=2) rfl rfl];have:¬ z<0:=λq=>c (hn.2 q);rw [show z=(z.natAbs:Int) by omega] at hv;exact hK _ _ _ _ _ H4 (u3 hv.fix) ⟨_,_,rfl,hv⟩
theorem zp3 {va vb:AV} {a b:Int} (hva:qp va a) (hvb:qp vb b):Pure Tryz.prog B 258 [va,vb] (λv=>qp v (Int.gcd a b:Int)):=by
 have hva0:=hva;have hvb0:=hvb;obtain ⟨s,w,rfl,hva⟩:=hva;obtain ⟨s',w',rfl,hvb⟩:=hvb;refine zT λh nx K H0 hK=>zM zQ yA (b.natAbs+100) λhf => ?_;rw [uf.go,uf.t16,zA,uf.zw];refine H0.box (l:=[s,w]) rfl λpa h1 nx1 H1 => ?_;refine H1.box (l:=[s',w']) rfl λpb h2 nx2 H2 => ?_;refine H2.alloc λp h3 nx3 H3 => ?_;rw [zA,uf.zu,H3.zm (k:=2) (n:=2) rfl rfl,H3.zm (k:=1) (n:=2) rfl rfl];refine zgw hva0 _ _ _ _ ?_;rintro _ ⟨s1,w1,rfl,i1⟩ _;rw [H3.zm (k:=1) (n:=2) rfl rfl,zG];refine zgw hvb0 _ _ _ _ ?_;rintro _ ⟨s2,w2,rfl,i2⟩ _;refine H3.jb (l2:=[s1,w1]) (k:=2) rfl rfl rfl λh4 H4 => ?_;refine H4.jb (l2:=[s2,w2]) (k:=1) rfl rfl rfl λh5 H5 => ?_;rw [zA,zI];refine uf.zmu (λm h' nx'=>∃ (x y:Nat) (s1 w1 s2 w2:AV),dm s1 w1 (x:Int)/\dm s2 w2 (y:Int)/\m=y/\Nat.gcd x y=Int.gcd a b/\Hp h h' nx' [.arr p [I 0,.za],.arr pb [s2,w2],.arr pa [s1,w1]]) (m:=b.natAbs) (by omega) ⟨a.natAbs,b.natAbs,s1,w1,s2,w2,i1,i2,rfl,rfl,H5⟩ ?_;rintro m z5 z6 h6 nx6 R ⟨x,y,s1,w1,s2,w2,i1,i2,rfl,hg,H6⟩ hR;rw [uf.t9,zA,zA,uf.jd,H6.zm (k:=1) (n:=2) rfl rfl];refine dG ⟨_,_,rfl,i2⟩ _ _ _ _ ?_;rintro _ rfl _;rw [bq,zB,uf.v6];by_cases c:m=0
 .subst c;rw [Zac (by rfl),Zap,zC,zW,yD,zA,uf.rF,H6.zm (k:=2) (n:=2) rfl rfl];refine H6.jb (l2:=[s1,w1]) (k:=0) rfl rfl rfl λh7 H7 => ?_;simp only [zF,zN];rw [uf.ret,H7.zm (k:=0) (n:=2) rfl rfl];rw [Zgr] at hg;rw [hg] at i1;exact hK _ _ _ _ _ H7 (u3 i1.fix) ⟨_,_,rfl,i1⟩
 .have hs:gX (m:Int)=1:=by unfold gX;rw [if_neg (by omega),if_pos (by omega)]
  rw [hs,Zab (by decide),Zan,zD,zE,zI,zA,uf.ny,H6.zm (k:=2) (n:=2) rfl rfl,H6.zm (k:=1) (n:=2) rfl rfl];refine bU ⟨_,_,rfl,i1⟩ ⟨_,_,rfl,i2⟩ (by omega) _ _ _ _ ?_;rintro _ ⟨v1,v2,rfl,⟨s3,w3,rfl,i3⟩,⟨s4,w4,rfl,i4⟩⟩ _;rw [jD,jC];refine H6.alloc λp1 h7 nx7 H7 => ?_;refine H7.alloc λq1 h8 nx8 H8 => ?_;refine H8.jb (l2:=[s3,w3]) (k:=1) rfl rfl rfl λh9 H9 => ?_;refine H9.jb (l2:=[s4,w4]) (k:=0) rfl rfl rfl λh10 H10 => ?_;rw [uf.ku,H10.zm (k:=3) (n:=2) rfl rfl,H10.zm (k:=0) (n:=2) rfl rfl];refine H10.jb (l2:=[s2,w2]) (k:=4) rfl rfl rfl λh11 H11 => ?_;rw [H11.zm (k:=0) (n:=2) rfl rfl,zG];refine H11.jb (l2:=[s4,w4]) (k:=3) rfl rfl rfl λh12 H12 => ?_;rw [<- Int.natCast_emod] at i4;have hlt:=Zdk x (show 0<m by omega);refine hR (x%m) _ _ _ _ hlt ⟨m,x%m,s2,w2,s4,w4,i2,i4,rfl,?_,H12.drop.drop⟩;rw [<- hg,Zfh x m,Nat.gcd_rec m x,Zfh]
theorem dm.two {s w:AV} {z:Int} (h:dm s w z):s=I z/\w=.za/\nR z/\∀ K:AV->OP,zb .eql (.nil .sl) w .za K=K (.bool true):=by
 obtain ⟨rfl,rfl,h⟩:=h;exact ⟨rfl,rfl,h,λ_=>u9⟩
theorem vM {a b:Int} {M N:Nat} (ha:a.natAbs<=M) (hb:b.natAbs<=N) (h:M*N<=9223372036854775807):nR (a*b):=by
 have:=Zcb ha hb;rw [<- Zcc] at this;unfold nR;omega
theorem zgx {a b:Int} {M:Nat} (ha:a.natAbs<=M) (hb:b.natAbs<=M) (h:2*M<=9223372036854775807):nR (a+b):=by unfold nR;omega
def qy (M:Nat) (q:Rat):Prop:=q.num.natAbs<=M/\q.den<=M
theorem qy.mono {M N:Nat} {q:Rat} (h:qy M q) (hN:M<=N):qy N q:=⟨Zax h.1 hN,Zax h.2 hN⟩
theorem qy.neg {M:Nat} {q:Rat} (h:qy M q):qy M (-q):=⟨by rw [Zft,Zdr];exact h.1,by rw [Rat.neg_den];exact h.2⟩
theorem wR {t:T AV} {l:List AV} {off n:Nat} (h:yQ t 0 l.length=l) (hle:off+n<=l.length):yQ t off n=(l.drop off).take n:=by
 apply Zbm;intro i;by_cases hi:i<n
 .rw [yI _ _ _ _ hi,List.getElem?_take_of_lt hi,List.getElem?_drop];have:=yI t 0 l.length (off+i) (by omega);rw [h,Zbe] at this;exact this.symm
 .rw [List.getElem?_eq_none (by rw [uK];omega),List.getElem?_eq_none (by simp;omega)]
theorem Hp.qb {h0 h:T Blk} {nx:Pa} {L:List Ob} {k n off:Nat} {id:Pa} {l l2:List AV} {op:AV->OP} (H:Hp h0 h nx L) (hk:L[k]? = some (.arr id l)) (hle:off+n<=l.length) (he:(l.drop off).take n=l2):zJ n (.ptr id off) h op=op (.agg l2):=by
 obtain ⟨o,t,h1,h2⟩:=H.own _ (Zad hk);show uy (T.get .no id h) (λ_ m t=>bif Nat.ble (off+n) m then op (.agg (yQ t off n)) else .no 8) (.no 9)=_;rw [h1];show (bif Nat.ble (off+n) l.length then op (.agg (yQ t off n)) else .no 8)=_;rw [Zag hle,cond_true,wR h2 hle,he]
def jG (v:AV) (q:Rat):Prop:=∃ s w s' w',v=.agg [s,w,s',w']/\dm s w q.num/\dm s' w' (q.den:Int)
theorem dm.aZ {s w s' w':AV} {a b:Int} (h:dm s w a) (h':dm s' w' b):∀ v∈[s,w,s',w'],nu v=true:=by
 intro v hv;rcases List.mem_cons.1 hv with rfl | hv
 .exact h.fix _ (by simp)
 rcases List.mem_cons.1 hv with rfl | hv
 .exact h.fix _ (by simp)
 exact h'.fix _ hv
theorem dm.build {s w s' w':AV} {a b:Int} (h:dm s w a) (h':dm s' w' b) {K:AV->OP}:j6 [(I 0),.za,(I 0),.za] [(0,2,.agg [s,w]),(2,2,.agg [s',w'])] K=K (.agg [s,w,s',w']):=nr rfl
theorem vU {v:AV} {q:Rat} (hv:jG v q):Pure Tryz.prog B 122 [v] (· = .bool (decide (q.den=1))):=by
 obtain ⟨s,w,s',w',rfl,h1,h2⟩:=hv;refine zT λh nx K H0 hK=>zM zQ yA 100 λhf => ?_;rw [xw.go,xw.t3,zA,xw.zw];refine H0.box (l:=[s,w,s',w']) rfl λpa h1 nx1 H1 => ?_;rw [zA,xw.zu,xw.sD,xw.sF,sFx,sFx,H1.load (k:=0) (i:=0+2+1) (v:=w') rfl rfl];obtain ⟨rfl,rfl,_,e2⟩:=h2.two;rw [e2];simp only [yO];rw [sFx,sFx,H1.load (k:=0) (i:=0+2+0) rfl rfl,xw.tO,xw.rU];simp only [yO];rw [wm];simp only [zY];simp only [zF,zN];rw [xw.ret];exact hK _ _ _ _ _ H1 (zV rfl) (by congr 1;exact decide_eq_decide.2 (by omega))
theorem kC {n d:Int} (hd:0<d):(Rat.divInt n d).num=n / (Int.gcd n d:Int)/\((Rat.divInt n d).den:Int)=d / (Int.gcd n d:Int):=by
 refine ⟨?_,?_⟩
 .rw [Rat.num_divInt,Int.sign_eq_one_of_pos hd,Int.one_mul,Int.gcd_comm]
 .rw [Rat.den_divInt,if_neg (by omega),Int.gcd_comm,Int.natCast_ediv]
  congr 1
  omega
theorem zdb {z:Int}:((z:Rat)).num=z/\(((z:Rat)).den:Int)=1:=⟨Zgf z,by rw [Rat.den_intCast];rfl⟩
theorem zbp {v:AV} {z:Int} (hv:qp v z):Pure Tryz.prog B 186 [v] (λv=>jG v (z:Rat)):=by
 obtain ⟨s,w,rfl,hv⟩:=hv;refine zT λh nx K H0 hK=>zM zQ yA 100 λhf => ?_;rw [fA.go,fA.t3,zA,fA.zw];refine H0.box (l:=[s,w]) rfl λpa h1 nx1 H1 => ?_;refine H1.alloc λp h2 nx2 H2 => ?_;rw [zA,fA.zu,H2.zm (k:=1) (n:=2) rfl rfl];refine zp2 (by unfold nR;omega) _ _ _ _ ?_;rintro _ ⟨s',w',rfl,h'⟩ _;rw [H2.zm (k:=1) (n:=2) rfl rfl,zG,hv.build h'];refine H2.jb (l2:=[s,w,s',w']) (k:=0) rfl rfl rfl λh4 H4 => ?_;simp only [zF,zN];rw [fA.ret,H4.zm (k:=0) (n:=4) rfl rfl];exact hK _ _ _ _ _ H4 (u3 (hv.aZ h')) ⟨_,_,_,_,rfl,by rw [zdb.1];exact hv,by rw [zdb.2];exact h'⟩
theorem zkc {z:Int} (h:nR z):Pure Tryz.prog B 96 [I z] (λv=>jG v (z:Rat)):=by
 refine zT λhh nx K H0 hK=>zM zQ yA 100 λhf => ?_;rw [F96.go,F96.t3,zA,F96.zw];refine H0.alloc λp h2 nx2 H2 => ?_;rw [zA,F96.zu];refine zp2 h _ _ _ _ ?_;intro v hv _;refine zbp hv _ _ _ _ ?_;rintro _ ⟨s,w,s',w',rfl,i1,i2⟩ _;refine H2.jb (l2:=[s,w,s',w']) (k:=0) rfl rfl rfl λh4 H4 => ?_;simp only [zF,zN];rw [F96.ret,H4.zm (k:=0) (n:=4) rfl rfl];exact hK _ _ _ _ _ H4 (u3 (i1.aZ i2)) ⟨_,_,_,_,rfl,i1,i2⟩
theorem bB {va vb:AV} {a b:Int} (hva:qp va a) (hvb:qp vb b) (hb:b≠0):Pure Tryz.prog B 195 [va,vb] (λv=>jG v (Rat.divInt a b)):=by
 have hva0:=hva;have hvb0:=hvb;obtain ⟨s,w,rfl,hva⟩:=hva;obtain ⟨s',w',rfl,hvb⟩:=hvb;refine zT λh nx K H0 hK=>zM zQ yA 100 λhf => ?_;rw [jm.go,jm.t16,zA,jm.zw];refine H0.box (l:=[s,w]) rfl λpa h1 nx1 H1 => ?_;refine H1.box (l:=[s',w']) rfl λpb h2 nx2 H2 => ?_;refine H2.alloc λp h3 nx3 H3 => ?_
 have tail:∀ {h5:T Blk} {nx5:Pa} {s1 w1 s2 w2:AV} {a' b':Int} {x5 x6 x7:AV},Hp h h5 nx5 [.arr p [I 0,.za,I 0,.za],.arr pb [s2,w2],.arr pa [s1,w1]]->dm s1 w1 a'->dm s2 w2 b'->1<=b'->Rat.divInt a' b'=Rat.divInt a b ->
   IR.run jm.t14 (CS Tryz.prog B) 100 (fnO jm.res K) (zi jm.res K) (jm.fr (.agg [s,w]) (.agg [s',w']) (.ptr pa 0) (.ptr pb 0) (.ptr p 0) x5 x6 x7) h5 nx5=.ok True:=by
  intro h5 nx5 s1 w1 s2 w2 a' b' x5 x6 x7 H i1 i2 hb' e;obtain ⟨d1,d2⟩:=kC (n:=a') (show 0<b' by omega);have general:∀ {x5 x6 x7:AV},IR.run jm.t13 (CS Tryz.prog B) 100 (fnO jm.res K) (zi jm.res K) (jm.fr (.agg [s,w]) (.agg [s',w']) (.ptr pa 0) (.ptr pb 0) (.ptr p 0) x5 x6 x7) h5 nx5=.ok True:=by
   intro x5 x6 x7;rw [jm.t13,zA,jm.nX,H.zm (k:=2) (n:=2) rfl rfl,H.zm (k:=1) (n:=2) rfl rfl];refine zp3 ⟨_,_,rfl,i1⟩ ⟨_,_,rfl,i2⟩ _ _ _ _ ?_;rintro _ ⟨s3,w3,rfl,i3⟩ _;have g0:0<Int.gcd a' b':=Int.gcd_pos_of_ne_zero_right _ (by omega);refine H.alloc λp1 h6 nx6 H6 => ?_;refine H6.jb (l2:=[s3,w3]) (k:=0) rfl rfl rfl λh7 H7 => ?_;rw [zA,jm.dx,H7.zm (k:=3) (n:=2) rfl rfl,H7.zm (k:=0) (n:=2) rfl rfl,H7.zm (k:=2) (n:=2) rfl rfl,H7.zm (k:=0) (n:=2) rfl rfl];refine zkb (c:=a' / (Int.gcd a' b':Int)) ⟨_,_,rfl,i1⟩ ⟨_,_,rfl,i3⟩  (by omega) (Int.ediv_mul_cancel (Zet ..)).symm _ _ _ _ ?_;rintro _ ⟨s4,w4,rfl,i4⟩ _;rw [H7.zm (k:=0) (n:=2) rfl rfl,zG,H7.zm (k:=2) (n:=2) rfl rfl,zG];refine zkb (c:=b' / (Int.gcd a' b':Int)) ⟨_,_,rfl,i2⟩ ⟨_,_,rfl,i3⟩  (by omega) (Int.ediv_mul_cancel (Zfs ..)).symm _ _ _ _ ?_;rintro _ ⟨s5,w5,rfl,i5⟩ _;rw [i4.build i5];refine H7.jb (l2:=[s4,w4,s5,w5]) (k:=1) rfl rfl rfl λh8 H8 => ?_;simp only [zF,zN];rw [jm.ret,H8.zm (k:=1) (n:=4) rfl rfl];exact hK _ _ _ _ _ H8 (u3 (i4.aZ i5)) ⟨_,_,_,_,rfl,by rw [<- e,d1];exact i4,by rw [<- e,d2];exact i5⟩
  rw [jm.t14,zA,zA,jm.ny,sFx,H.load (k:=1) (i:=0+1) (v:=w2) rfl rfl];obtain ⟨rfl,rfl,_,e2⟩:=i2.two
  .rw [e2];simp only [yO];rw [sFx,H.load (k:=1) (i:=0+0) rfl rfl,wm,zY,zB,jm.v7];by_cases c:b'=1
   .subst c;rw [Zac rfl,zD,zA,jm.ku,H.zm (k:=2) (n:=2) rfl rfl,H.zm (k:=1) (n:=2) rfl rfl,i1.build i2];refine H.jb (l2:=[s1,w1,I 1,.za]) (k:=0) rfl rfl rfl λh8 H8 => ?_;simp only [zF,zN];rw [jm.ret,H8.zm (k:=0) (n:=4) rfl rfl];rw [Int.gcd_one] at d1 d2;exact hK _ _ _ _ _ H8 (u3 (i1.aZ i2)) ⟨_,_,_,_,rfl,by rw [<- e,d1];simpa using i1,by rw [<- e,d2];simpa using i2⟩
   .rw [Zab c,zC,zE];exact general
 rw [zA,zA,jm.zu,H3.zm (k:=1) (n:=2) rfl rfl];refine dG hvb0 _ _ _ _ ?_;rintro _ rfl _;rw [jk,zB,jm.v6];by_cases cb:b<0
 .rw [Zac (by unfold gX;rw [if_pos cb];decide),zD,jm.jd,H3.zm (k:=2) (n:=2) rfl rfl,H3.zm (k:=1) (n:=2) rfl rfl];refine xE hva0 _ _ _ _ ?_;rintro _ ⟨s3,w3,rfl,i3⟩ _;rw [H3.zm (k:=1) (n:=2) rfl rfl,zG];refine xE hvb0 _ _ _ _ ?_;rintro _ ⟨s4,w4,rfl,i4⟩ _;refine H3.jb (l2:=[s3,w3]) (k:=2) rfl rfl rfl λh8 H8 => ?_;refine H8.jb (l2:=[s4,w4]) (k:=1) rfl rfl rfl λh9 H9 => ?_;exact tail H9 i3 i4 (by omega) (Rat.neg_divInt_neg ..)
 .rw [Zab (by unfold gX;rw [if_neg cb];split <;> decide),zC,zE];exact tail H3 hva hvb (by omega) rfl
theorem zi6 (op:KW3->OP) (h:T Blk) (nx:Pa) (k:KW3):sGW (.bool true) true op h nx k=op k:=nr rfl
theorem zem (op:KW3->OP) (h:T Blk) (nx:Pa) (k:KW3):sGW (.bool false) true op h nx k=k .u h nx:=nr rfl
theorem qS (q:Rat):Rat.divInt q.num (q.den:Int)=q:=Rat.num_divInt_den q
theorem u4 (q:Rat):(q.den:Int)≠0:=by have:=q.den_nz;omega
theorem zdc (a b:Rat):Rat.divInt (a.num*b.num) ((a.den:Int)*(b.den:Int))=a*b:=by
 rw [<- Rat.divInt_mul_divInt,qS,qS]
theorem zdd (a b:Rat):Rat.divInt (a.num*(b.den:Int)+b.num*(a.den:Int)) ((a.den:Int)*(b.den:Int))=a+b:=by
 rw [<- Rat.divInt_add_divInt _ _ (u4 a) (u4 b),qS,qS]
theorem bO {q:Rat} (h:q.den=1):((q.num:Int):Rat)=q:=Rat.ext (Zgf _) (by rw [Rat.den_intCast,h])
theorem rO {z:Int}:gX z=0↔z=0:=by unfold gX;split <;> (try split) <;> constructor <;> intro <;> omega
theorem bF {v:AV} {q:Rat} (hv:jG v q):Pure Tryz.prog B 110 [v] (· = I (gX q.num)):=by
 obtain ⟨s,w,s',w',rfl,i1,i2⟩:=hv;refine zT λh nx K H0 hK=>zM zQ yA 100 λhf => ?_;rw [fI.go,fI.t3,zA,fI.zw];refine H0.box (l:=[s,w,s',w']) rfl λpa h1 nx1 H1 => ?_;rw [zA,fI.zu,sFx,H1.qb (k:=0) (l2:=[s,w]) rfl (by simp) rfl];refine dG ⟨_,_,rfl,i1⟩ _ _ _ _ ?_;rintro _ rfl _;simp only [zF,zN];rw [fI.ret];exact hK _ _ _ _ _ H1 (zV rfl) rfl
theorem zde {v:AV} {q:Rat} (hv:jG v q):Pure Tryz.prog B 107 [v] (λv=>jG v (-q)):=by
 obtain ⟨s,w,s',w',rfl,i1,i2⟩:=hv;refine zT λh nx K H0 hK=>zM zQ yA 100 λhf => ?_;rw [fJ.go,fJ.t3,zA,fJ.zw];refine H0.box (l:=[s,w,s',w']) rfl λpa h1 nx1 H1 => ?_;refine H1.alloc λp h2 nx2 H2 => ?_;have ln:∀ op:AV->OP,zJ 2 (.ptr pa (0+0)) h2 op=op (.agg [s,w]):=λop=>H2.qb (k:=1) rfl (by simp) rfl;have ld:∀ op:AV->OP,zJ 2 (.ptr pa (0+2)) h2 op=op (.agg [s',w']):=λop=>H2.qb (k:=1) rfl (by simp) rfl;rw [zA,fJ.zu,sFx,ln,sFx,ld];refine xE ⟨_,_,rfl,i1⟩ _ _ _ _ ?_;rintro _ ⟨s3,w3,rfl,i3⟩ _;rw [ld,zG,sFx,zG,i3.build i2];refine H2.jb (l2:=[s3,w3,s',w']) (k:=0) rfl rfl rfl λh4 H4 => ?_;simp only [zF,zN];rw [fJ.ret,H4.zm (k:=0) (n:=4) rfl rfl];exact hK _ _ _ _ _ H4 (u3 (i3.aZ i2)) ⟨_,_,_,_,rfl,by rw [Zft];exact i3,by rw [Rat.neg_den];exact i2⟩
theorem zmd {v:AV} {q:Rat} (hv:jG v q) (h0:q≠0):Pure Tryz.prog B 112 [v] (λv=>jG v q⁻¹):=by
 obtain ⟨s,w,s',w',rfl,i1,i2⟩:=hv;refine zT λh nx K H0 hK=>zM zQ yA 100 λhf => ?_;rw [fK.go,fK.t3,zA,fK.zw];refine H0.box (l:=[s,w,s',w']) rfl λpa h1 nx1 H1 => ?_;refine H1.alloc λp h2 nx2 H2 => ?_;have ln:∀ op:AV->OP,zJ 2 (.ptr pa (0+0)) h2 op=op (.agg [s,w]):=λop=>H2.qb (k:=1) rfl (by simp) rfl;have ld:∀ op:AV->OP,zJ 2 (.ptr pa (0+2)) h2 op=op (.agg [s',w']):=λop=>H2.qb (k:=1) rfl (by simp) rfl;rw [zA,fK.zu,sFx,ld,sFx,ln];refine bB ⟨_,_,rfl,i2⟩ ⟨_,_,rfl,i1⟩ (λe=>h0 (Rat.num_eq_zero.1 e)) _ _ _ _ ?_;rintro _ ⟨s3,w3,s4,w4,rfl,i3,i4⟩ _;refine H2.jb (l2:=[s3,w3,s4,w4]) (k:=0) rfl rfl rfl λh4 H4 => ?_;simp only [zF,zN];rw [fK.ret,H4.zm (k:=0) (n:=4) rfl rfl];rw [<- Rat.inv_def] at i3 i4;exact hK _ _ _ _ _ H4 (u3 (i3.aZ i4)) ⟨_,_,_,_,rfl,i3,i4⟩
theorem zgy {va vb:AV} {a b:Rat} {M N:Nat} (hva:jG va a) (hvb:jG vb b) (ha:qy M a) (hb:qy N b) (h:M*N<=9223372036854775807):Pure Tryz.prog B 119 [va,vb] (λv=>jG v (a*b)):=by
 obtain ⟨s,w,s',w',rfl,i1,i2⟩:=hva;obtain ⟨t,u,t',u',rfl,j1,j2⟩:=hvb;refine zT λhh nx K H0 hK=>zM zQ yA 100 λhf => ?_;rw [fM.go,fM.t3,zA,fM.zw];refine H0.box (l:=[s,w,s',w']) rfl λpa h1 nx1 H1 => ?_;refine H1.box (l:=[t,u,t',u']) rfl λpb h2 nx2 H2 => ?_;refine H2.alloc λp h3 nx3 H3 => ?_;have an:∀ op:AV->OP,zJ 2 (.ptr pa (0+0)) h3 op=op (.agg [s,w]):=λop=>H3.qb (k:=2) rfl (by simp) rfl;have ad:∀ op:AV->OP,zJ 2 (.ptr pa (0+2)) h3 op=op (.agg [s',w']):=λop=>H3.qb (k:=2) rfl (by simp) rfl;have bn:∀ op:AV->OP,zJ 2 (.ptr pb (0+0)) h3 op=op (.agg [t,u]):=λop=>H3.qb (k:=1) rfl (by simp) rfl;have bd:∀ op:AV->OP,zJ 2 (.ptr pb (0+2)) h3 op=op (.agg [t',u']):=λop=>H3.qb (k:=1) rfl (by simp) rfl;rw [zA,fM.zu,sFx,an,sFx,bn,sFx,ad,sFx,bd];refine vQ ⟨_,_,rfl,i1⟩ ⟨_,_,rfl,j1⟩ (vM ha.1 hb.1 h) _ _ _ _ ?_;intro v1 hv1 _;rw [bd,zG,sFx,zG,ad,zG,sFx,zG];refine vQ ⟨_,_,rfl,i2⟩ ⟨_,_,rfl,j2⟩ (vM (M:=M) (N:=N) ha.2 hb.2 h) _ _ _ _ ?_;intro v2 hv2 _;refine bB hv1 hv2 (Int.mul_ne_zero (u4 a) (u4 b)) _ _ _ _ ?_;rintro _ ⟨s3,w3,s4,w4,rfl,i3,i4⟩ _;refine H3.jb (l2:=[s3,w3,s4,w4]) (k:=0) rfl rfl rfl λh4 H4 => ?_;simp only [zF,zN];rw [fM.ret,H4.zm (k:=0) (n:=4) rfl rfl];rw [zdc] at i3 i4;exact hK _ _ _ _ _ H4 (u3 (i3.aZ i4)) ⟨_,_,_,_,rfl,i3,i4⟩
theorem zp4 {va vb:AV} {a b:Rat} {M N:Nat} (hva:jG va a) (hvb:jG vb b) (ha:qy M a) (hb:qy N b) (h:2*(M*N)<=9223372036854775807):Pure Tryz.prog B 114 [va,vb] (λv=>jG v (a+b)):=by
 have hva0:=hva;have hvb0:=hvb;obtain ⟨s,w,s',w',rfl,i1,i2⟩:=hva;obtain ⟨t,u,t',u',rfl,j1,j2⟩:=hvb;refine zT λhh nx K H0 hK=>zM zQ yA 100 λhf => ?_;rw [qw.go,qw.t9,zA,qw.zw];refine H0.box (l:=[s,w,s',w']) rfl λpa h1 nx1 H1 => ?_;refine H1.box (l:=[t,u,t',u']) rfl λpb h2 nx2 H2 => ?_;refine H2.alloc λp h3 nx3 H3 => ?_;have an:∀ op:AV->OP,zJ 2 (.ptr pa (0+0)) h3 op=op (.agg [s,w]):=λop=>H3.qb (k:=2) rfl (by simp) rfl;have ad:∀ op:AV->OP,zJ 2 (.ptr pa (0+2)) h3 op=op (.agg [s',w']):=λop=>H3.qb (k:=2) rfl (by simp) rfl;have bn:∀ op:AV->OP,zJ 2 (.ptr pb (0+0)) h3 op=op (.agg [t,u]):=λop=>H3.qb (k:=1) rfl (by simp) rfl;have bd:∀ op:AV->OP,zJ 2 (.ptr pb (0+2)) h3 op=op (.agg [t',u']):=λop=>H3.qb (k:=1) rfl (by simp) rfl;have general:∀ {x5:AV},IR.run qw.t7 (CS Tryz.prog B) 100 (fnO qw.res K) (zi qw.res K) (qw.fr (.agg [s,w,s',w']) (.agg [t,u,t',u']) (.ptr pa 0) (.ptr pb 0) (.ptr p 0) x5) h3 nx3=.ok True:=by
  intro x5;rw [qw.t7,zA,qw.ku,sFx,an,sFx,bd,sFx,bn,sFx,ad,sFx,ad,sFx,bd];refine vQ ⟨_,_,rfl,i1⟩ ⟨_,_,rfl,j2⟩ (vM ha.1 (show Int.natAbs (b.den:Int)<=N from hb.2) (by omega)) _ _ _ _ ?_;intro v1 hv1 _;rw [bd,zG,sFx,zG,ad,zG,sFx,zG,ad,zG,sFx,zG,bn,zG,sFx,zG];refine vQ ⟨_,_,rfl,j1⟩ ⟨_,_,rfl,i2⟩ (vM hb.1 (show Int.natAbs (a.den:Int)<=M from ha.2) (by rw [Zbu];omega)) _ _ _ _ ?_;intro v2 hv2 _;rw [bd,zG,sFx,zG,ad,zG,sFx,zG];refine zka hv1 hv2 (zgx (M:=M*N) (by rw [Zcc];exact Zcb ha.1 hb.2) (by rw [Zcc,Zbu M N];exact Zcb hb.1 ha.2) h) _ _ _ _ ?_;intro v3 hv3 _;rw [bd,zG,sFx,zG,ad,zG,sFx,zG];refine vQ ⟨_,_,rfl,i2⟩ ⟨_,_,rfl,j2⟩ (vM (M:=M) (N:=N) ha.2 hb.2 (by omega)) _ _ _ _ ?_;intro v4 hv4 _;refine bB hv3 hv4 (Int.mul_ne_zero (u4 a) (u4 b)) _ _ _ _ ?_;rintro _ ⟨s3,w3,s4,w4,rfl,i3,i4⟩ _;refine H3.jb (l2:=[s3,w3,s4,w4]) (k:=0) rfl rfl rfl λh4 H4 => ?_;simp only [zF,zN];rw [qw.ret,H4.zm (k:=0) (n:=4) rfl rfl];rw [zdd] at i3 i4;exact hK _ _ _ _ _ H4 (u3 (i3.aZ i4)) ⟨_,_,_,_,rfl,i3,i4⟩
 rw [zA,zA,qw.zu,H3.zm (k:=2) (n:=4) rfl rfl];refine vU hva0 _ _ _ _ ?_;rintro _ rfl _;by_cases ca:a.den=1
 .rw [Zac ca];simp only [yO];rw [H3.zm (k:=1) (n:=4) rfl rfl,zi6];refine vU hvb0 _ _ _ _ ?_;rintro _ rfl _;rw [zY,zB,qw.v5];by_cases cb:b.den=1
  .rw [Zac cb,zD,zA,qw.jd,sFx,an,sFx,bn];refine zka ⟨_,_,rfl,i1⟩ ⟨_,_,rfl,j1⟩ (zgx (M:=M*N) (Zax ha.1 (Nat.le_mul_of_pos_right M (by have:=hb.2;have:=b.den_pos;omega))) (Zax hb.1 (Nat.le_mul_of_pos_left N (by have:=ha.2;have:=a.den_pos;omega))) h) _ _ _ _ ?_;intro v1 hv1 _;refine zbp hv1 _ _ _ _ ?_;rintro _ ⟨s3,w3,s4,w4,rfl,i3,i4⟩ _;refine H3.jb (l2:=[s3,w3,s4,w4]) (k:=0) rfl rfl rfl λh4 H4 => ?_;simp only [zF,zN];rw [qw.ret,H4.zm (k:=0) (n:=4) rfl rfl];have e:((a.num+b.num:Int):Rat)=a+b:=by rw [Zfe,bO ca,bO cb]
   rw [e] at i3 i4;exact hK _ _ _ _ _ H4 (u3 (i3.aZ i4)) ⟨_,_,_,_,rfl,i3,i4⟩
  .rw [Zab cb,zC,zE];exact general
 .rw [Zab ca];simp only [jH];rw [zem,zZ,zB,qw.v5,zC,zE];exact general
theorem zme {va vb:AV} {a b:Rat} {M N:Nat} (hva:jG va a) (hvb:jG vb b) (ha:qy M a) (hb:qy N b) (h:2*(M*N)<=9223372036854775807):Pure Tryz.prog B 192 [va,vb] (λv=>jG v (a-b)):=by
 have hva0:=hva;have hvb0:=hvb;obtain ⟨s,w,s',w',rfl,i1,i2⟩:=hva;obtain ⟨t,u,t',u',rfl,j1,j2⟩:=hvb;refine zT λhh nx K H0 hK=>zM zQ yA 100 λhf => ?_;rw [fO.go,fO.t3,zA,fO.zw];refine H0.box (l:=[s,w,s',w']) rfl λpa h1 nx1 H1 => ?_;refine H1.box (l:=[t,u,t',u']) rfl λpb h2 nx2 H2 => ?_;refine H2.alloc λp h3 nx3 H3 => ?_;rw [zA,fO.zu,H3.zm (k:=2) (n:=4) rfl rfl,H3.zm (k:=1) (n:=4) rfl rfl];refine zde hvb0 _ _ _ _ ?_;intro v1 hv1 _;rw [H3.zm (k:=2) (n:=4) rfl rfl,zG];refine zp4 hva0 hv1 ha hb.neg h _ _ _ _ ?_;rintro _ ⟨s3,w3,s4,w4,rfl,i3,i4⟩ _;refine H3.jb (l2:=[s3,w3,s4,w4]) (k:=0) rfl rfl rfl λh4 H4 => ?_;simp only [zF,zN];rw [fO.ret,H4.zm (k:=0) (n:=4) rfl rfl];rw [<- Zfi] at i3 i4;exact hK _ _ _ _ _ H4 (u3 (i3.aZ i4)) ⟨_,_,_,_,rfl,i3,i4⟩
theorem qy.inv {M:Nat} {q:Rat} (h:qy M q):qy M q⁻¹:=by
 have h1:(q⁻¹).num.natAbs<=q.den/\(q⁻¹).den<=max 1 q.num.natAbs:=by
  rw [Rat.inv_def];by_cases c:q.num=0
  .rw [c];have e:Rat.divInt (q.den:Int) 0=0:=by simp
   rw [e];exact ⟨by simp,by simp⟩
  .refine ⟨?_,?_⟩
   .rw [Rat.num_divInt];refine Zax (Int.natAbs_ediv_le_natAbs _ _) ?_;rw [Zcc,Int.natAbs_sign_of_ne_zero c,Zdh,Zbk];exact Zaf _
   .rw [Rat.den_divInt,if_neg c];refine Zax (Zcn _ _) ?_;omega
 obtain ⟨a,b⟩:=h;have:=q.den_pos;exact ⟨by omega,by omega⟩
theorem xS {l c:List AV} {off:Nat} (h:off+c.length<=l.length):(gH l off c).length=l.length:=by
 unfold gH;rw [Zae,Zae,Zai,Zcd];omega
theorem pE {l c:List AV} {off m:Nat} (h:off+c.length<=l.length):(gH l off c)[m]? = if off<=m/\m<off+c.length then c[m-off]? else l[m]? := by
 unfold gH;have ht:(l.take off).length=off:=by rw [Zai];omega
 by_cases h1:m<off
 .rw [if_neg (by omega),Zbo,List.getElem?_append_left (by omega),List.getElem?_take_of_lt h1]
 .by_cases h2:m<off+c.length
  .rw [if_pos (by omega),Zbo,List.getElem?_append_right (by omega),ht,List.getElem?_append_left (by omega)]
  .rw [if_neg (by omega),Zbo,List.getElem?_append_right (by omega),ht,List.getElem?_append_right (by omega),List.getElem?_drop]
   congr 1;omega
theorem Hp.eu {h0 h:T Blk} {nx:Pa} {L:List Ob} {k n off:Nat} {id:Pa} {l l2:List AV} {K:Kw Prop} (H:Hp h0 h nx L) (hk:L[k]? = some (.arr id l)) (hle:off+n<=l.length) (hl2:l2.length=n) (hK:∀ h',Hp h0 h' nx (L.set k (.arr id (gH l off l2)))->K .u h' nx=.ok True):zS n (.ptr id off) (.agg l2) h nx K=.ok True:=by
 obtain ⟨o,t,h1,h2⟩:=H.own _ (Zad hk);show uy (T.get .no id h) _ _=_;rw [h1];show (bif Nat.beq l2.length n&&Nat.ble (off+n) l.length then uB l2 t off (λt'=>T.cK Blk.no (.cells o l.length t') id h λh'=>K .u h' nx) else .no 42)=_;rw [aL hl2,Zag hle];simp only [Zgv,cond_true];rw [jO,T.gm];refine hK _ (H.upd hk (by simp [Ob.names]) rfl ⟨o,_,by rw [T.get_set_same,xS (by omega)],?_⟩);rw [xS (by omega)];apply Zbm;intro i;rw [pE (by omega)];by_cases hi:i<l.length
 .rw [yI _ _ _ _ hi,Zbe,uZ];have hr:=yI t 0 l.length i hi;rw [h2,Zbe] at hr;by_cases hc:off<=i/\i<off+l2.length
  .rw [if_pos hc,if_pos hc,Zaa,List.getElem?_eq_getElem (by omega)];rfl
  .rw [if_neg hc,if_neg hc];exact hr.symm
 .rw [List.getElem?_eq_none (by simp;omega),if_neg (by omega),List.getElem?_eq_none (by omega)]
def tZ (c:List AV) (j:Nat) (x:Rat):Prop:=∃ s w s' w',(c.drop (j*4)).take 4=[s,w,s',w']/\dm s w x.num/\dm s' w' (x.den:Int)
def rA (c:List AV) (q:List Rat):Prop:=c.length=q.length*4/\∀ j x,q[j]? = some x->tZ c j x
theorem zp5 {c d:List AV} {i j:Nat} (h:∀ t,t<4->c[i+t]? = d[j+t]?):(c.drop i).take 4=(d.drop j).take 4:=by
 apply Zbm;intro t;by_cases ht:t<4
 .rw [List.getElem?_take_of_lt ht,List.getElem?_take_of_lt ht,List.getElem?_drop,List.getElem?_drop];exact h t ht
 .rw [List.getElem?_eq_none (by rw [Zai];omega),List.getElem?_eq_none (by rw [Zai];omega)]
theorem tZ.same {c:List AV} {j:Nat} {x:Rat} {s w s' w':AV} (hj:j*4+4<=c.length) (h1:dm s w x.num) (h2:dm s' w' (x.den:Int)):tZ (gH c (j*4) [s,w,s',w']) j x:=by
 refine ⟨s,w,s',w',?_,h1,h2⟩;have:[s,w,s',w']=(([s,w,s',w']:List AV).drop 0).take 4:=rfl;rw [this];refine zp5 λt ht => ?_;rw [pE (by simpa using hj),if_pos ⟨by omega,by simp;omega⟩];simp
theorem tZ.other {c:List AV} {i j:Nat} {x:Rat} {s w s' w':AV} (hj:j*4+4<=c.length) (hij:i≠j) (h:tZ c i x):tZ (gH c (j*4) [s,w,s',w']) i x:=by
 obtain ⟨a,b,a',b',e,h1,h2⟩:=h;refine ⟨a,b,a',b',?_,h1,h2⟩;rw [<- e];refine zp5 λt ht => ?_;rw [pE (by simpa using hj),if_neg];simp only [Zbb,Zfc];omega
theorem rA.put {c:List AV} {q:List Rat} {j:Nat} {x:Rat} {s w s' w':AV} (h:rA c q) (hj:j<q.length) (h1:dm s w x.num) (h2:dm s' w' (x.den:Int)):rA (gH c (j*4) [s,w,s',w']) (q.set j x):=by
 have hl:j*4+4<=c.length:=by rw [h.1];omega
 refine ⟨by rw [xS (by simpa using hl),Zas];exact h.1,λi y hy => ?_⟩;by_cases e:i=j
 .subst e;rw [List.getElem?_set_self hj] at hy;obtain rfl:=Option.some.inj hy;exact tZ.same hl h1 h2
 .rw [List.getElem?_set_ne (by omega)] at hy;exact tZ.other hl e (h.2 i y hy)
theorem rA.get {c:List AV} {q:List Rat} {j:Nat} {x:Rat} (h:rA c q) (hx:q[j]? = some x):∃ cs,(c.drop (j*4)).take 4=cs/\j*4+4<=c.length/\j<q.length/\jG (.agg cs) x:=by
 obtain ⟨s,w,s',w',e,h1,h2⟩:=h.2 j x hx;have hj:=(List.getElem?_eq_some_iff.1 hx).1;exact ⟨_,e,by rw [h.1];omega,hj,s,w,s',w',rfl,h1,h2⟩
abbrev rwV (n:Nat) (r:Pa):AV:=.sl r 0 n (some n) 4
theorem rwIx {r:Pa} {n j:Nat} {z:Int} {op:AV->OP} (hz:z=(j:Int)) (hj:j<n):zK 4 (rwV n r) (I z) op=op (.ptr r (j*4)):=by
 subst hz;rw [uI hj,Zbe]
theorem zus {n j:Nat} {l:List AV} {z:Int} {op:AV->OP} (hz:z=(j:Int)) (hj:j<n):zK 4 (.lst 4 n l) (I z) op=op (.fp (l.drop (j*4))):=fF hz hj
def cmpT (a b:List Nat):Nat->Int
 | 0=>0
 | k+1=>if a.getD k 0=b.getD k 0 then cmpT a b k else if a.getD k 0<b.getD k 0 then -1 else 1
def cmpW (a b:List Nat):Int:=if a.length≠b.length then (if a.length<b.length then -1 else 1) else cmpT a b a.length
theorem getD_some {l:List Nat} {k:Nat} (h:k<l.length):l[k]? = some (l.getD k 0):=by rw [Zaa,List.getElem?_eq_getElem h];rfl
theorem mF {b:Nat} {l:List Nat} {k:Nat} (hb:0<b) (h:Dg b l):l.getD k 0<b:=by
 by_cases c:k<l.length
 .exact h _ (Zad (getD_some c))
 .rw [Zaa,List.getElem?_eq_none (by omega)];exact hb
theorem zdf {b:Nat} {x y:List Nat} (hb:0<b) (hx:Dg b x) (hy:Dg b y):∀ {k:Nat},k<=x.length->k<=y.length->cmpT x y k=(if bv b (x.take k)<bv b (y.take k) then -1 else if bv b (y.take k)<bv b (x.take k) then 1 else 0)
 | 0,_,_=>by simp [cmpT,bv]
 | k+1,h1,h2=>by
  have e1:=getD_some (l:=x) (k:=k) (by omega);have e2:=getD_some (l:=y) (k:=k) (by omega);have l1:=zc9 hb (hx.take (n:=k));have l2:=zc9 hb (hy.take (n:=k));rw [Zai,Zbp (by omega)] at l1 l2;rw [cmpT,vF e1,vF e2,zdf hb hx hy (by omega) (by omega)]
  generalize bv b (x.take k)=X at *
  generalize bv b (y.take k)=Y at *
  generalize x.getD k 0=u at *
  generalize y.getD k 0=v at *
  generalize b ^ k=P at *
  by_cases c:u=v
  .rw [if_pos c,c];simp only [Nat.add_lt_add_iff_right]
  .rw [if_neg c];by_cases d:u<v
   .have q:P*(u+1)<=P*v:=Zdq P d;rw [Zei,Zby] at q;have q1:X+P*u<Y+P*v:=by omega
    rw [if_pos d,if_pos q1]
   .have q:P*(v+1)<=P*u:=Zdq P (by omega);rw [Zei,Zby] at q;have q1:Y+P*v<X+P*u:=by omega
    have q2:¬ X+P*u<Y+P*v:=by omega
    rw [if_neg d,if_neg q2,if_pos q1]
theorem kO {b z n:Nat} (hb:2<=b) (h:z<b ^ n):(dg b z).length<=n:=by
 induction n generalizing z with
 | zero=>rw [show z=0 by simp at h;exact h,gM];simp
 | succ n ih =>
  by_cases hz:z=0
  .rw [hz,gM];simp
  .rw [kN hb hz,Zbb];have:=ih (z:=z / b) (by rw [Zgb (by omega),<- Zde];exact h);omega
theorem wM {b y z:Nat} (hb:2<=b) (h:(dg b y).length<(dg b z).length):y<z:=by
 rcases Zcz y z with q | q
 .exact q
 .exfalso
  have h1:=kO hb (z:=z) (n:=(dg b y).length) (Zdf q (by
   have:=zc9 (b:=b) (by omega) (qB hb y).2.1
   rwa [(qB hb y).1] at this))
  omega
def cmpN (a b:Nat):Int:=if a<b then -1 else if b<a then 1 else 0
theorem zsi {b x y:Nat} (hb:2<=b):cmpW (dg b x) (dg b y)=cmpN x y:=by
 unfold cmpW cmpN;by_cases c:(dg b x).length=(dg b y).length
 .rw [if_neg (by simpa using c),zdf (by omega) (qB hb x).2.1 (qB hb y).2.1 (Zaf _) (by omega),Zcx,c,Zcx,(qB hb x).1,(qB hb y).1]
 .rw [if_pos c];by_cases d:(dg b x).length<(dg b y).length
  .rw [if_pos d,if_pos (wM hb d)]
  .have:=wM hb (y:=y) (z:=x) (by omega);rw [if_neg d,if_neg (by omega),if_pos this]
theorem dH {α:Type} {A C:List α} {x y:α} {i:Nat} (h:A.length=i):(A++x::C).set i y=A++y::C:=by
 subst h;rw [Zeq _ _ (Zaf _),Zcj];rfl
theorem Dg.append {b:Nat} {l m:List Nat} (h1:Dg b l) (h2:Dg b m):Dg b (l++m):=λx hx=>by
 rcases List.mem_append.1 hx with q | q
 .exact h1 x q
 .exact h2 x q
theorem Dg.one {b x:Nat} (h:x<b):Dg b [x]:=λy hy=>by rw [List.mem_singleton.1 hy];exact h
theorem Dg.rep {b n:Nat} (h:0<b):Dg b (List.replicate n 0):=λx hx=>by rw [(List.mem_replicate.1 hx).2];exact h
theorem rat0:((0:Int):Rat)=0:=rfl
theorem rat1:((1:Int):Rat)=1:=rfl
theorem pZ (n:Nat) (z:List AV):(fB n z).length=n*z.length:=by
 induction n with
 | zero=>show ([]:List AV).length=_;rw [Nat.zero_mul];rfl
 | succ n ih=>show (z++fB n z).length=_;rw [Zae,ih,Zbd,Zdh,Zdc]
theorem zgz {h0 h:T Blk} {nx p:Pa} {L:List Ob} {n:Nat} {K:Kw Prop} (H:Hp h0 h nx L) (hn:n<=1000) (hK:∀ id c h' nx',rA c (List.replicate n 0)->Hp h0 h' nx' (.arr id c::L)->K (rwV n id) h' nx'=.ok True):(CS Tryz.prog B).fn 105 p [I (n:Int)] h nx K=.ok True:=by
 refine zM zQ yA 2000 λhf => ?_;rw [jh.go,jh.t20,zA,jh.zw,zA,jh.zu];refine H.mkN (n:=n) (c:=n) rfl rfl (Zaf _) (by omega) (by omega) λid h1 nx1 H1 => ?_;rw [zA,zA,jh.jd,yH,zI];refine jh.zfa (λm x5 h' nx'=>∃ (i:Nat) (c:List AV),x5=I (i:Int)/\m+i=n/\c.length=n*4/\(∀ j,j<i->tZ c j 0)/\Hp h0 h' nx' (.arr id c::L)) (m:=n) (by omega) ⟨0,_,rfl,rfl,pZ _ _,λj hj=>by omega,H1⟩ ?_;rintro m z3 z5 z6 h3 nx3 R ⟨i,c,rfl,hm,hc,hall,H3⟩ hR;rw [jh.t12,zA,jh.pu,jk,zA,zB,jh.v6];by_cases ci:i<n
 .rw [Zac (by omega),zD,zE,zA,zI,zA,jh.ny,jh.ku];refine zkc (by unfold nR;omega) _ _ _ _ ?_;rintro _ ⟨s,w,s',w',rfl,i1,i2⟩ _;rw [rat0] at i1 i2;rw [rwIx (j:=i) rfl ci];refine H3.eu (k:=0) (off:=i*4) rfl (by omega) rfl λh4 H4 => ?_;rw [jh.nP,ug (by omega)];refine hR (m-1) _ _ _ _ _ (by omega) ⟨i+1,_,by congr 1,by omega,by rw [xS (by simp;omega)];exact hc,λj hj => ?_,H4⟩;by_cases e:j=i
  .subst e;exact tZ.same (by omega) i1 i2
  .exact tZ.other (by omega) e (hall j (by omega))
 .rw [Zab (by omega),zC,zW,yD,zA,jh.rG];simp only [zF,zN];rw [jh.ret];refine hK id c _ _ ⟨by rw [Zau];exact hc,λj x hx => ?_⟩ H3;have hj:=(List.getElem?_eq_some_iff.1 hx).1;rw [Zau] at hj;rw [List.getElem?_replicate,if_pos hj] at hx;obtain rfl:=Option.some.inj hx;exact hall j (by omega)
def tF (n:Nat) (l:List Int):List Rat:=l.foldl (λq c=>q.set c.toNat 1) (List.replicate n 0)
theorem bE (n:Nat) (l:List Int) (c:Int):tF n (l++[c])=(tF n l).set c.toNat 1:=by unfold tF;rw [List.foldl_append];rfl
theorem d9:∀ (l:List Int) (q:List Rat),(l.foldl (λq c=>q.set c.toNat 1) q).length=q.length
 | [],_=>rfl
 | c::l,q=>by rw [Zee,d9 l,Zas]
theorem jE (n:Nat) (l:List Int):(tF n l).length=n:=by unfold tF;rw [d9,Zau]
theorem zen {h0 h:T Blk} {nx p:Pa} {L:List Ob} {n:Nat} {l:List Int} {K:Kw Prop} (H:Hp h0 h nx L) (hn:n<=1000) (hl:l.length<=1000) (hr:∀ c∈l,0<=c/\c<(n:Int)) (hK:∀ id c h' nx',rA c (tF n l)->Hp h0 h' nx' (.arr id c::L)->K (rwV n id) h' nx'=.ok True):(CS Tryz.prog B).fn 104 p [I (n:Int),encI l] h nx K=.ok True:=by
 refine zM zQ yA 2000 λhf => ?_;rw [jg.go,jg.t20,zA,jg.zw,zA,jg.zu];refine zgz H hn λid c h1 nx1 hc H1 => ?_;rw [zA,zA,jg.jd,zX,zI];refine jg.zfa (λm x7 h' nx'=>∃ (i:Nat) (c:List AV),x7=I (i:Int)/\m+i=l.length/\rA c (tF n (l.take i))/\Hp h0 h' nx' (.arr id c::L)) (m:=l.length) (by omega) ⟨0,c,rfl,rfl,hc,H1⟩ ?_;rintro m z4 z7 z8 h3 nx3 R ⟨i,c,rfl,hm,hc,H3⟩ hR;rw [jg.t12,zA,jg.pu,jk,zA,zB,jg.v8];by_cases ci:i<l.length
 .have hx:l[i]? = some l[i]:=List.getElem?_eq_getElem ci;have hb:=hr _ (Zav ci);rw [Zac (by omega),zD,zE,zA,zI,zA,jg.ny,fF rfl ci,ldL (aO hx),jg.ku];refine zkc (by unfold nR;omega) _ _ _ _ ?_;rintro _ ⟨s,w,s',w',rfl,i1,i2⟩ _;rw [rat1] at i1 i2;have hcl:=hc.1;rw [jE] at hcl;rw [rwIx (j:=l[i].toNat) (by omega) (by omega)];refine H3.eu (k:=0) (off:=l[i].toNat*4) rfl (by omega) rfl λh4 H4 => ?_;rw [jg.nP,ug (by omega)];refine hR (m-1) _ _ _ _ _ (by omega) ⟨i+1,_,by congr 1,by omega,?_,H4⟩;rw [Zat,hx,Zdn,bE];exact hc.put (by rw [jE];omega) i1 i2
 .rw [Zab (by omega),zC,zW,yD,zA,jg.rG];simp only [zF,zN];rw [jg.ret];rw [Zaq (by omega)] at hc;exact hK id c _ _ hc H3
def jT (b:Rat) (r o:List Rat):List Rat:=List.zipWith (λx y=>x-b*y) r o
theorem pget {l e:List Rat} {c:Nat} {q:Rat} (hle:e.length=l.length) (hq:l[c]? = some q):(e.take c++l.drop c)[c]? = some q:=by
 have hc:=(List.getElem?_eq_some_iff.1 hq).1;rw [List.getElem?_append_right (by rw [Zai];omega),Zai,List.getElem?_drop,show c+(c-min c e.length)=c by omega];exact hq
theorem zut {l e:List Rat} {c:Nat} {q:Rat} (hle:e.length=l.length) (hq:e[c]? = some q):(e.take c++l.drop c).set c q=e.take (c+1)++l.drop (c+1):=by
 have hc:=(List.getElem?_eq_some_iff.1 hq).1;rw [Zbg (show c<l.length by omega),dH (by rw [Zai];omega),Zat,hq];simp
theorem zuu {l e:List Rat} {c:Nat} {q:Rat} (hle:e.length=l.length) (hq:e[c]? = some q) (hl:l[c]? = some q):e.take c++l.drop c=e.take (c+1)++l.drop (c+1):=by
 have hc:=(List.getElem?_eq_some_iff.1 hq).1;have h1:l[c]'(by omega)=q:=by rw [List.getElem?_eq_getElem (by omega)] at hl;exact Option.some.inj hl
 rw [Zbg (show c<l.length by omega),Zat,hq,h1];simp
theorem zkd {h0 h:T Blk} {nx p r o:Pa} {L:List Ob} {kr ko n M N P R:Nat} {cr co:List AV} {qr qo:List Rat} {v:AV} {b:Rat} {K:Kw Prop} (H:Hp h0 h nx L) (hkr:L[kr]? = some (.arr r cr)) (hko:L[ko]? = some (.arr o co)) (hne:ko≠kr) (hr:rA cr qr) (ho:rA co qo) (hlr:qr.length=n) (hlo:qo.length=n) (hn:n<=1000) (hv:jG v b) (hb:qy M b) (hqr:∀ x∈qr,qy P x) (hqo:∀ x∈qo,qy N x) (hqp:∀ x∈qo,qy R (b*x)) (hMN:M*N<=9223372036854775807) (hPR:2*(P*R)<=9223372036854775807)
  (hK:∀ c h' nx',rA c (jT b qr qo)->Hp h0 h' nx' (L.set kr (.arr r c))->K (.tup []) h' nx'=.ok True):(CS Tryz.prog B).fn 106 p [rwV n r,v,rwV n o] h nx K=.ok True:=by
 refine zM zQ yA 2000 λhf => ?_;obtain ⟨sb,wb,sb',wb',rfl,b1,b2⟩:=hv;have hkl:=(List.getElem?_eq_some_iff.1 hkr).1;have hE:(jT b qr qo).length=qr.length:=by unfold jT;rw [Zcp];omega
 rw [jo.go,jo.t18,zA,jo.zw];refine H.box (l:=[sb,wb,sb',wb']) rfl λbb h1 nx1 H1 => ?_;rw [zA,jo.zu,yH,zI]
 refine jo.zfb (λm x8 h' nx'=>∃ (i:Nat) (c:List AV),x8=I (i:Int)/\m+i=n/\rA c ((jT b qr qo).take i++qr.drop i)/\Hp h0 h' nx' (.arr bb [sb,wb,sb',wb']::L.set kr (.arr r c))) (m:=n) (by omega) ⟨0,cr,rfl,rfl,by rw [Zds,Zbl,Zcs];exact hr,by
  have:L.set kr (.arr r cr)=L:=by
   rw [List.getElem?_eq_getElem hkl] at hkr;rw [<- Option.some.inj hkr,List.set_getElem_self]
  rw [this];exact H1⟩ ?_
 rintro m z4 z5 z8 z9 z10 h3 nx3 R ⟨i,c,rfl,hm,hc,H3⟩ hR;rw [jo.t14,zA,jo.jd,jk,zA,zB,jo.v9];by_cases ci:i<n
 .have hx:qo[i]? = some qo[i]:=List.getElem?_eq_getElem (by omega);have hy:qr[i]? = some qr[i]:=List.getElem?_eq_getElem (by omega);have hz:(jT b qr qo)[i]? = some (qr[i]-b*qo[i]):=by unfold jT;rw [List.getElem?_zipWith,hy,hx]
  have mo:=Zav (l:=qo) (n:=i) (by omega);have mr:=Zav (l:=qr) (n:=i) (by omega);obtain ⟨cs,e1,e2,_,fo⟩:=ho.get hx;obtain ⟨cs2,e3,e4,hcj,fr⟩:=hc.get (pget hE hy);have hko3:(Ob.arr bb [sb,wb,sb',wb']::L.set kr (.arr r c))[ko+1]? = some (.arr o co):=by
   show (L.set kr (.arr r c))[ko]? = _;rw [List.getElem?_set_ne (by omega)];exact hko
  have hkr3:(Ob.arr bb [sb,wb,sb',wb']::L.set kr (.arr r c))[kr+1]? = some (.arr r c):=by
   show (L.set kr (.arr r c))[kr]? = _;rw [List.getElem?_set_self hkl]
  obtain ⟨so,wo,so',wo',e5,o1,o2⟩:=fo;obtain rfl:=AV.agg.inj e5;rw [Zac (by omega),zD,zE,zA,zI,zA,jo.fG,rwIx (j:=i) rfl ci,H3.qb hko3 e2 e1];refine H3.alloc λxb h4 nx4 H4 => ?_;refine H4.jb (l2:=[so,wo,so',wo']) (k:=0) rfl rfl rfl λh5 H5 => ?_;rw [zA,jo.ny,H5.zm (k:=0) (n:=4) rfl rfl];refine bF ⟨_,_,_,_,rfl,o1,o2⟩ _ _ _ _ ?_;rintro _ rfl _;rw [bq,zB,jo.v10];by_cases d:qo[i]=0
  .have d2:qr[i]-b*qo[i]=qr[i]:=by rw [d,Zbx,Zfi,Rat.neg_zero,Zdu]
   rw [Zac (rO.2 (Rat.num_eq_zero.2 d)),Zap,zC,zE,jo.dx,ug (by omega)];rw [d2] at hz;exact hR (m-1) _ _ _ _ _ _ _ (by omega) ⟨i+1,c,by congr 1,by omega,by rw [<- zuu hE hz hy];exact hc,H5.drop⟩
  .rw [Zab (λq=>d (Rat.num_eq_zero.1 (rO.1 q))),Zan,zD,jo.ku];have lr:∀ op:AV->OP,zJ 4 (.ptr r (i*4)) h5 op=op (.agg cs2):=λop=>H5.qb (k:=kr+2) hkr3 e4 e3;have lb:∀ op:AV->OP,zJ 4 (.ptr bb 0) h5 op=op (.agg [sb,wb,sb',wb']):=λop=>H5.zm (k:=1) (n:=4) rfl rfl;have lx:∀ op:AV->OP,zJ 4 (.ptr xb 0) h5 op=op (.agg [so,wo,so',wo']):=λop=>H5.zm (k:=0) (n:=4) rfl rfl;have ix:∀ op:AV->OP,zK 4 (rwV n r) (I (i:Int)) op=op (.ptr r (i*4)):=λop=>rwIx (j:=i) rfl ci;simp only [ix,lr,lb,lx];refine zgy ⟨_,_,_,_,rfl,b1,b2⟩ ⟨_,_,_,_,rfl,o1,o2⟩ hb (hqo _ mo) hMN _ _ _ _ ?_;rintro v5 f5 _;simp only [lr,zG];refine zme fr f5 (hqr _ mr) (hqp _ mo) hPR _ _ _ _ ?_;rintro _ ⟨s6,w6,s6',w6',rfl,i1,i2⟩ _;refine H5.eu (k:=kr+2) (off:=i*4) hkr3 e4 rfl λh6 H6 => ?_;rw [jo.dx,ug (by omega)];refine hR (m-1) _ _ _ _ _ _ _ (by omega) ⟨i+1,gH c (i*4) [s6,w6,s6',w6'],by congr 1,by omega,?_,?_⟩
   .rw [<- zut hE hz];exact hc.put hcj i1 i2
   .exact (H6.cast (show ((Ob.arr xb [I 0,.za,I 0,.za]::Ob.arr bb [sb,wb,sb',wb']::L.set kr (.arr r c)).set 0 (Ob.arr xb [so,wo,so',wo'])).set (kr+2) (.arr r (gH c (i*4) [s6,w6,s6',w6']))=Ob.arr xb [so,wo,so',wo']::Ob.arr bb [sb,wb,sb',wb']::L.set kr (.arr r (gH c (i*4) [s6,w6,s6',w6'])) by
     show Ob.arr xb _::Ob.arr bb _::(L.set kr (.arr r c)).set kr _=_;rw [Zda])).drop
 .rw [Zab (by omega),zC,zW,yD];rw [jo.ret];rw [Zaq (by omega),Zbr (by omega),Zbh] at hc;exact hK c _ _ hc H3.drop
def yM (b:Rat) (r:List Rat):List Rat:=r.map λx=>x*b
theorem zbq {h0 h:T Blk} {nx p r:Pa} {L:List Ob} {kr n M N:Nat} {cr:List AV} {qr:List Rat} {v:AV} {b:Rat} {K:Kw Prop} (H:Hp h0 h nx L) (hkr:L[kr]? = some (.arr r cr)) (hr:rA cr qr) (hlr:qr.length=n) (hn:n<=1000) (hv:jG v b) (hb:qy M b) (hqr:∀ x∈qr,qy N x) (hMN:N*M<=9223372036854775807)
  (hK:∀ c h' nx',rA c (yM b qr)->Hp h0 h' nx' (L.set kr (.arr r c))->K (.tup []) h' nx'=.ok True):(CS Tryz.prog B).fn 111 p [rwV n r,v] h nx K=.ok True:=by
 refine zM zQ yA 2000 λhf => ?_;obtain ⟨sb,wb,sb',wb',rfl,b1,b2⟩:=hv;have hkl:=(List.getElem?_eq_some_iff.1 hkr).1;have hE:(yM b qr).length=qr.length:=by unfold yM;rw [Zah]
 rw [jq.go,jq.t18,zA,jq.zw];refine H.box (l:=[sb,wb,sb',wb']) rfl λbb h1 nx1 H1 => ?_;rw [zA,jq.zu,yH,zI]
 refine jq.zfb (λm x7 h' nx'=>∃ (i:Nat) (c:List AV),x7=I (i:Int)/\m+i=n/\rA c ((yM b qr).take i++qr.drop i)/\Hp h0 h' nx' (.arr bb [sb,wb,sb',wb']::L.set kr (.arr r c))) (m:=n) (by omega) ⟨0,cr,rfl,rfl,by rw [Zds,Zbl,Zcs];exact hr,by
  have:L.set kr (.arr r cr)=L:=by
   rw [List.getElem?_eq_getElem hkl] at hkr;rw [<- Option.some.inj hkr,List.set_getElem_self]
  rw [this];exact H1⟩ ?_
 rintro m z3 z4 z7 z8 z9 h3 nx3 R ⟨i,c,rfl,hm,hc,H3⟩ hR;rw [jq.t14,zA,jq.jd,jk,zA,zB,jq.v8];by_cases ci:i<n
 .have hy:qr[i]? = some qr[i]:=List.getElem?_eq_getElem (by omega);have hz:(yM b qr)[i]? = some (qr[i]*b):=by unfold yM;rw [List.getElem?_map,hy];rfl
  have mr:=Zav (l:=qr) (n:=i) (by omega);obtain ⟨cs2,e3,e4,hcj,fr⟩:=hc.get (pget hE hy);have hkr3:(Ob.arr bb [sb,wb,sb',wb']::L.set kr (.arr r c))[kr+1]? = some (.arr r c):=by
   show (L.set kr (.arr r c))[kr]? = _;rw [List.getElem?_set_self hkl]
  obtain ⟨so,wo,so',wo',e5,o1,o2⟩:=fr;obtain rfl:=AV.agg.inj e5;rw [Zac (by omega),zD,zE,zA,zI,zA,jq.fG,rwIx (j:=i) rfl ci,H3.qb hkr3 e4 e3];refine H3.alloc λxb h4 nx4 H4 => ?_;refine H4.jb (l2:=[so,wo,so',wo']) (k:=0) rfl rfl rfl λh5 H5 => ?_;rw [zA,jq.ny,H5.zm (k:=0) (n:=4) rfl rfl];refine bF ⟨_,_,_,_,rfl,o1,o2⟩ _ _ _ _ ?_;rintro _ rfl _;rw [bq,zB,jq.v9];by_cases d:qr[i]=0
  .have d2:qr[i]*b=qr[i]:=by rw [d,Zbj]
   rw [Zac (rO.2 (Rat.num_eq_zero.2 d)),Zap,zC,zE,jq.dx,ug (by omega)];rw [d2] at hz;exact hR (m-1) _ _ _ _ _ _ _ (by omega) ⟨i+1,c,by congr 1,by omega,by rw [<- zuu hE hz hy];exact hc,H5.drop⟩
  .rw [Zab (λq=>d (Rat.num_eq_zero.1 (rO.1 q))),Zan,zD,jq.ku,H5.zm (k:=0) (n:=4) rfl rfl,H5.zm (k:=1) (n:=4) rfl rfl];refine zgy ⟨_,_,_,_,rfl,o1,o2⟩ ⟨_,_,_,_,rfl,b1,b2⟩ (hqr _ mr) hb hMN _ _ _ _ ?_;rintro _ ⟨s6,w6,s6',w6',rfl,i1,i2⟩ _;rw [rwIx (j:=i) rfl ci];refine H5.eu (k:=kr+2) (off:=i*4) hkr3 e4 rfl λh6 H6 => ?_;rw [jq.dx,ug (by omega)];refine hR (m-1) _ _ _ _ _ _ _ (by omega) ⟨i+1,gH c (i*4) [s6,w6,s6',w6'],by congr 1,by omega,?_,?_⟩
   .rw [<- zut hE hz];exact hc.put hcj i1 i2
   .exact (H6.cast (show ((Ob.arr xb [I 0,.za,I 0,.za]::Ob.arr bb [sb,wb,sb',wb']::L.set kr (.arr r c)).set 0 (Ob.arr xb [so,wo,so',wo'])).set (kr+2) (.arr r (gH c (i*4) [s6,w6,s6',w6']))=Ob.arr xb [so,wo,so',wo']::Ob.arr bb [sb,wb,sb',wb']::L.set kr (.arr r (gH c (i*4) [s6,w6,s6',w6'])) by
     show Ob.arr xb _::Ob.arr bb _::(L.set kr (.arr r c)).set kr _=_;rw [Zda])).drop
 .rw [Zab (by omega),zC,zW,yD];rw [jq.ret];rw [Zaq (by omega),Zbr (by omega),Zbh] at hc;exact hK c _ _ hc H3.drop
end Go.Ev
namespace Go.Ev
open Go Go.Proofs
def Dn (t M:Nat) (q:Rat):Prop:=∃ z:Int,q*((t:Int):Rat)=(z:Rat)/\z.natAbs<=M
theorem vD {t:Int} (h:t≠0):(t:Rat)≠0:=λe=>by
 have:=congrArg Rat.num e;rw [Zgf] at this;exact h this
theorem Dn.nm {t M:Nat} {q:Rat} (ht:1<=t) (htM:t<=M) (h:Dn t M q):qy M q:=by
 obtain ⟨z,e,hz⟩:=h;have h0:((t:Int):Rat)≠0:=vD (by omega);have eq:q=Rat.divInt z (t:Int):=by rw [Zgw];grind
 obtain ⟨d1,d2⟩:=kC (n:=z) (d:=(t:Int)) (by omega);have hg:0<(Int.gcd z (t:Int):Int):=by have:=Int.gcd_pos_of_ne_zero_right z (show (t:Int)≠0 by omega);omega
 have hg1:1<=Int.gcd z (t:Int):=by omega
 refine ⟨?_,?_⟩
 .rw [eq,d1,Zej (Zet ..)];exact Zax (Zcn _ _) hz
 .have:((Rat.divInt z (t:Int)).den:Int).natAbs<=M:=by
   rw [d2,Zej (Zfs ..)];exact Zax (Zcn _ _) (by omega)
  rw [eq];exact this
theorem Dn.mono {t M N:Nat} {q:Rat} (h:Dn t M q) (hMN:M<=N):Dn t N q:=by
 obtain ⟨z,e,hz⟩:=h;exact ⟨z,e,Zax hz hMN⟩
theorem Dn.zero (t M:Nat):Dn t M 0:=⟨0,by grind,by simp⟩
theorem Dn.sub {t M N:Nat} {p q:Rat} (hp:Dn t M p) (hq:Dn t N q):Dn t (M+N) (p-q):=by
 obtain ⟨z,e,hz⟩:=hp;obtain ⟨w,f,hw⟩:=hq;refine ⟨z-w,by rw [Rat.intCast_sub];grind,?_⟩;have:=Int.natAbs_sub_le z w;omega
theorem Dn.mul {t s M N:Nat} {p q:Rat} (hp:Dn t M p) (hq:Dn s N q):Dn (t*s) (M*N) (p*q):=by
 obtain ⟨z,e,hz⟩:=hp;obtain ⟨w,f,hw⟩:=hq;refine ⟨z*w,?_,?_⟩
 .rw [Zcg,show ((t*s:Nat):Int)=(t:Int)*(s:Int) by simp,Zcg];grind
 .rw [Zcc];exact Zcb hz hw
theorem Dn.scale {t M:Nat} (s:Nat) {p:Rat} (hp:Dn t M p):Dn (t*s) (M*s) p:=by
 obtain ⟨z,e,hz⟩:=hp;refine ⟨z*(s:Int),?_,?_⟩
 .rw [Zcg,show ((t*s:Nat):Int)=(t:Int)*(s:Int) by simp,Zcg];grind
 .rw [Zcc,Zbk];exact Zbc _ hz
def Sg (b:Rat):Prop:=b = -1\/b=0\/b=1
theorem Sg.dn {b:Rat} (h:Sg b) {t M:Nat} (hM:t<=M):Dn t M b:=by
 rcases h with rfl | rfl | rfl
 .exact ⟨-(t:Int),by rw [Zcu];grind,by omega⟩
 .exact Dn.zero _ _
 .exact ⟨(t:Int),by grind,by omega⟩
theorem Sg.mul {b q:Rat} (h:Sg b) {t M:Nat} (hq:Dn t M q):Dn t M (b*q):=by
 obtain ⟨z,e,hz⟩:=hq;rcases h with rfl | rfl | rfl
 .exact ⟨-z,by rw [Zcu];grind,by omega⟩
 .rw [Zbj];exact Dn.zero _ _
 .exact ⟨z,by grind,hz⟩
abbrev at' (q:List Rat) (j:Nat):Rat:=q.getD j 0
theorem uA {q:List Rat} {j:Nat} (h:j<q.length):q[j]? = some (at' q j):=by
 rw [at',Zaa,List.getElem?_eq_getElem h];rfl
theorem jN {q:List Rat} {j:Nat} (h:q.length<=j):at' q j=0:=by
 rw [at',Zaa,List.getElem?_eq_none h];rfl
theorem at_mem {q:List Rat} {x:Rat} (h:x∈q):∃ j,j<q.length/\x=at' q j:=by
 obtain ⟨j,hj⟩:=List.mem_iff_getElem?.1 h;have hl:=(List.getElem?_eq_some_iff.1 hj).1;rw [uA hl] at hj;exact ⟨j,hl,(Option.some.inj hj).symm⟩
theorem j3 {b:Rat} {r o:List Rat} (h:r.length=o.length):(jT b r o).length=r.length:=by
 unfold jT;rw [Zcp];omega
theorem jK {b:Rat} {r o:List Rat} (h:r.length=o.length) (j:Nat):at' (jT b r o) j=at' r j-b*at' o j:=by
 by_cases hj:j<r.length
 .have h1:=uA (q:=jT b r o) (j:=j) (by rw [j3 h];exact hj);unfold jT at h1;rw [List.getElem?_zipWith,uA hj,uA (q:=o) (by omega)] at h1;exact (Option.some.inj h1).symm
 .rw [jN (by rw [j3 h];omega),jN (by omega),jN (by omega)];grind
theorem jW {b:Rat} {r:List Rat}:(yM b r).length=r.length:=by unfold yM;rw [Zah]
theorem uH {b:Rat} {r:List Rat} (j:Nat):at' (yM b r) j=at' r j*b:=by
 by_cases hj:j<r.length
 .have h1:=uA (q:=yM b r) (j:=j) (by rw [jW];exact hj);unfold yM at h1;rw [List.getElem?_map,uA hj] at h1;exact (Option.some.inj h1).symm
 .rw [jN (by rw [jW];omega),jN (by omega),Zbj]
def dot:List Rat->List Rat->Rat
 | a::q,b::f=>a*b+dot q f
 | _,_=>0
theorem q0 (b:Rat):∀ (r o f:List Rat),r.length=o.length->dot (jT b r o) f=dot r f-b*dot o f
 | [],[],f,_=>by unfold jT;simp [dot];grind
 | x::r,y::o,[],_=>by unfold jT;simp [dot];grind
 | x::r,y::o,z::f,h=>by
  have ih:=q0 b r o f (by simpa using h);unfold jT at ih ⊢;rw [Zfu,dot,dot,dot,ih];grind
 | [],_::_,_,h=>by simp at h
 | _::_,[],_,h=>by simp at h
theorem xM (b:Rat):∀ (r f:List Rat),dot (yM b r) f=b*dot r f
 | [],f=>by simp [yM,dot]
 | x::r,[]=>by simp [yM,dot]
 | x::r,z::f=>by
  have ih:=xM b r f;unfold yM at ih ⊢;rw [Zey,dot,dot,ih];grind
def oF:List (List Rat×Nat)->List Rat->List Rat
 | [],r=>r
 |(q,p)::l,r=>oF l (jT (at' r p) r q)
theorem kL (q:List Rat) (p:Nat):∀ (l:List (List Rat×Nat)) (r:List Rat),oF (l++[(q,p)]) r=jT (at' (oF l r) p) (oF l r) q
 | [],r=>rfl
 |(q',p')::l,r=>by rw [Zca,oF,kL q p l,oF]
structure St (n t M:Nat) (Q:List (List Rat)) (ps:List Nat):Prop where
 len:ps.length=Q.length
 row:∀ q∈Q,q.length=n
 den:∀ q∈Q,∀ j,Dn t M (at' q j)
 rng:∀ p∈ps,p<n
 one:∀ a b,a<Q.length->b<Q.length->at' (Q.getD a []) (ps.getD b 0)=if a=b then 1 else 0
 t1:1<=t
 tM:t<=M
theorem St.nil (n:Nat):St n 1 1 [] []:=⟨rfl,by simp,by simp,by simp,λa b h=>by simp at h,by omega,by omega⟩
theorem gR {α:Type} {l:List α} {i:Nat} {d:α} (h:i<l.length):l[i]? = some (l.getD i d):=by
 rw [Zaa,List.getElem?_eq_getElem h];rfl
theorem yG {α:Type} {l:List α} {i:Nat} {d:α} (h:i<l.length):l.getD i d∈l:=Zad (gR h)
abbrev zipQ (Q:List (List Rat)) (ps:List Nat):List (List Rat×Nat):=List.zip Q ps
theorem wX {Q:List (List Rat)} {ps:List Nat} {k:Nat} (hl:ps.length=Q.length) (hk:k<Q.length):(zipQ Q ps).take (k+1)=(zipQ Q ps).take k++[(Q.getD k [],ps.getD k 0)]:=by
 have h1:Q[k]? = some (Q.getD k []):=gR hk;have h2:ps[k]? = some (ps.getD k 0):=gR (by omega);have h3:(zipQ Q ps)[k]? = some (Q.getD k [],ps.getD k 0):=List.getElem?_zip_eq_some.2 ⟨h1,h2⟩;rw [Zat,h3];rfl
structure Rk (n t M:Nat) (Q:List (List Rat)) (ps:List Nat) (r0:List Rat) (k:Nat) (r:List Rat):Prop where
 eq:r=oF ((zipQ Q ps).take k) r0
 len:r.length=n
 den:∀ j,Dn t (M+k*M) (at' r j)
 late:∀ b,k<=b->b<Q.length->at' r (ps.getD b 0)=at' r0 (ps.getD b 0)
 done:∀ b,b<k->b<Q.length->at' r (ps.getD b 0)=0
theorem Rk.zero {n t M:Nat} {Q:List (List Rat)} {ps:List Nat} {r0:List Rat} (hS:St n t M Q ps) (hl:r0.length=n) (hs:∀ j,Sg (at' r0 j)):Rk n t M Q ps r0 0 r0 :=
 ⟨rfl,hl,λj=>(hs j).dn (by have:=hS.tM;omega),λb _ _=>rfl,λb h=>by omega⟩
theorem Rk.next {n t M k:Nat} {Q:List (List Rat)} {ps:List Nat} {r0 r:List Rat} (hS:St n t M Q ps) (hs:∀ j,Sg (at' r0 j)) (h:Rk n t M Q ps r0 k r) (hk:k<Q.length):Rk n t M Q ps r0 (k+1) (jT (at' r (ps.getD k 0)) r (Q.getD k [])):=by
 have hq:=yG (d:=[]) hk;have hql:=hS.row _ hq;have hll:r.length=(Q.getD k []).length:=by rw [h.len,hql]
 have hb:Sg (at' r (ps.getD k 0)):=by rw [h.late k (Zaf _) hk];exact hs _
 refine ⟨by rw [wX hS.len hk,kL,<- h.eq],by rw [j3 hll];exact h.len,λj => ?_,λb h1 h2 => ?_,λb h1 h2 => ?_⟩
 .rw [jK hll];have:=(h.den j).sub (hb.mul (hS.den _ hq j));exact this.mono (by rw [Zbd];omega)
 .rw [jK hll,hS.one k b hk h2,if_neg (by omega),Zbx,h.late b (by omega) h2];grind
 .rw [jK hll,hS.one k b hk h2];by_cases e:b=k
  .subst e;rw [if_pos rfl,Rat.mul_one];grind
  .rw [if_neg (by omega),Zbx,h.done b (by omega) h2];grind
def xD (Q:List (List Rat)) (p:Nat) (r:List Rat):List (List Rat):=Q.map λo=>jT (at' o p) o r
structure Nw (n t M N s:Nat) (Q:List (List Rat)) (ps:List Nat) (p:Nat) (r:List Rat):Prop where
 len:r.length=n
 den:∀ j,Dn s N (at' r j)
 one:at' r p=1
 out:∀ b,b<Q.length->at' r (ps.getD b 0)=0
 p1:p<n
 s1:1<=s
 sN:s<=N
theorem Nw.less {n t M N s p:Nat} {Q:List (List Rat)} {ps:List Nat} {r:List Rat} (hS:St n t M Q ps) (h:Nw n t M N s Q ps p r) {o:List Rat} (ho:o∈Q) :
  (∀ j,Dn (t*s) (M*N) (at' o p*at' r j))/\(∀ j,Dn (t*s) (M*s+M*N) (at' (jT (at' o p) o r) j))/\(jT (at' o p) o r).length=n:=by
 have hl:o.length=r.length:=by rw [hS.row o ho,h.len]
 refine ⟨λj=>(hS.den o ho p).mul (h.den j),λj => ?_,by rw [j3 hl];exact hS.row o ho⟩;rw [jK hl];exact ((hS.den o ho j).scale s).sub ((hS.den o ho p).mul (h.den j))
theorem St.next {n t M N s p:Nat} {Q:List (List Rat)} {ps:List Nat} {r:List Rat} (hS:St n t M Q ps) (h:Nw n t M N s Q ps p r):St n (t*s) (M*N+M*N) (xD Q p r++[r]) (ps++[p]):=by
 have hnl:(xD Q p r).length=Q.length:=by unfold xD;rw [Zah]
 have hM1:1<=M:=Zax hS.t1 hS.tM;have mM:M*s<=M*N:=Zdq _ h.sN;refine ⟨by rw [Zae,Zae,hnl,hS.len];rfl,λq hq => ?_,λq hq j => ?_,λx hx => ?_,λa b ha hb => ?_,Zcb hS.t1 h.s1,?_⟩
 .rcases List.mem_append.1 hq with hq | hq
  .obtain ⟨o,ho,rfl⟩:=List.mem_map.1 hq;exact (h.less hS ho).2.2
  .obtain rfl:=List.mem_singleton.1 hq;exact h.len
 .rcases List.mem_append.1 hq with hq | hq
  .obtain ⟨o,ho,rfl⟩:=List.mem_map.1 hq;exact ((h.less hS ho).2.1 j).mono (by omega)
  .obtain rfl:=List.mem_singleton.1 hq;have:=(h.den j).scale t;rw [Zbu s t] at this;have e:=Zdq N hS.tM;rw [Zbu N M] at e;exact this.mono (by omega)
 .rcases List.mem_append.1 hx with hx | hx
  .exact hS.rng x hx
  .obtain rfl:=List.mem_singleton.1 hx;exact h.p1
 .rw [Zae,hnl,Zbf] at ha hb;have eb:(ps++[p]).getD b 0=if b<Q.length then ps.getD b 0 else p:=by
   by_cases c:b<Q.length
   .rw [if_pos c,Zaa,List.getElem?_append_left (by rw [hS.len];exact c),<- Zaa]
   .rw [if_neg c,Zaa,List.getElem?_append_right (by rw [hS.len];omega),hS.len,show b-Q.length=0 by omega];rfl
  have ea:(xD Q p r++[r]).getD a []=if a<Q.length then jT (at' (Q.getD a []) p) (Q.getD a []) r else r:=by
   by_cases c:a<Q.length
   .rw [if_pos c,Zaa,List.getElem?_append_left (by rw [hnl];exact c),xD,List.getElem?_map,gR (d:=[]) c];rfl
   .rw [if_neg c,Zaa,List.getElem?_append_right (by rw [hnl];omega),hnl,show a-Q.length=0 by omega];rfl
  rw [ea,eb];by_cases c1:a<Q.length
  .have hl:(Q.getD a []).length=r.length:=by rw [hS.row _ (yG c1),h.len]
   rw [if_pos c1,jK hl];by_cases c2:b<Q.length
   .rw [if_pos c2,h.out b c2,hS.one a b c1 c2,Zbx];grind
   .rw [if_neg c2,h.one,if_neg (by omega)];grind
  .rw [if_neg c1];by_cases c2:b<Q.length
   .rw [if_pos c2,h.out b c2,if_neg (by omega)]
   .rw [if_neg c2,h.one,if_pos (by omega)]
 .have h1:=Zcb hS.tM h.sN;omega
abbrev SL (n:Nat) (o4 o5:Option Pa) (rs:List Pa) (cs:List (List AV)) (ps:List Nat) (T:List Ob):List Ob :=
 .gro o4 1 rs.length (rs.map (rwV n))::.gro o5 1 ps.length (ps.map λp=>I ((p:Nat):Int))::(List.zipWith Ob.arr rs cs++T)
structure SM (rs:List Pa) (cs:List (List AV)) (Q:List (List Rat)):Prop where
 lr:rs.length=Q.length
 lc:cs.length=Q.length
 row:∀ a,a<Q.length->rA (cs.getD a []) (Q.getD a [])
theorem bX {rs:List Pa} {cs:List (List AV)} {Q:List (List Rat)} (S:SM rs cs Q):(List.zipWith Ob.arr rs cs).length=Q.length:=by
 rw [Zcp,S.lr,S.lc,Nat.min_self]
theorem zke:∀ {rs:List Pa} {cs:List (List AV)} {a:Nat} {r:Pa} {c:List AV},rs[a]? = some r->(List.zipWith Ob.arr rs cs).set a (.arr r c)=List.zipWith Ob.arr rs (cs.set a c)
 | [],_,_,_,_,h=>by simp at h
 | _::_,[],_,_,_,_=>by simp
 | x::rs,y::cs,0,r,c,h=>by
  obtain rfl:=Option.some.inj h
  rfl
 | x::rs,y::cs,a+1,r,c,h=>by
  have:=zke (rs:=rs) (cs:=cs) (a:=a) (r:=r) (c:=c) (by simpa using h);simp [this]
theorem SM.put {rs:List Pa} {cs:List (List AV)} {Q:List (List Rat)} (S:SM rs cs Q) {n a:Nat} {o4 o5:Option Pa} {ps:List Nat} {T:List Ob} {r:Pa} {c:List AV} {q:List Rat} (ha:a<Q.length) (hr:rs[a]? = some r) (hc:rA c q) (X:List Ob) :
  SM rs (cs.set a c) (Q.set a q)/\(X++SL n o4 o5 rs cs ps T).set (X.length+(a+2)) (.arr r c)=X++SL n o4 o5 rs (cs.set a c) ps T:=by
 refine ⟨⟨by rw [Zas];exact S.lr,by rw [Zas,Zas];exact S.lc,λb hb => ?_⟩,?_⟩
 .rw [Zas] at hb;by_cases e:b=a
  .subst e;rw [Zaa,Zaa,List.getElem?_set_self (by rw [S.lc];exact hb),List.getElem?_set_self hb];exact hc
  .rw [Zaa,Zaa,List.getElem?_set_ne (by omega),List.getElem?_set_ne (by omega),<- Zaa,<- Zaa];exact S.row b hb
 .rw [Zeq _ _ (by omega),Zbz];show X++(Ob.gro o4 1 rs.length (rs.map (rwV n))::Ob.gro o5 1 ps.length (ps.map λp=>I ((p:Nat):Int))::(List.zipWith Ob.arr rs cs++T).set a (.arr r c))=_;rw [List.set_append_left _ _ (by rw [bX S];exact ha),zke hr]
theorem SM.add {rs:List Pa} {cs:List (List AV)} {Q:List (List Rat)} (S:SM rs cs Q) {r:Pa} {c:List AV} {q:List Rat} (hc:rA c q):SM (rs++[r]) (cs++[c]) (Q++[q]):=by
 refine ⟨by simp [S.lr],by simp [S.lc],λb hb => ?_⟩;rw [Zae,Zbf] at hb;by_cases e:b<Q.length
 .rw [Zaa,Zaa,List.getElem?_append_left (by rw [S.lc];exact e),List.getElem?_append_left e,<- Zaa,<- Zaa];exact S.row b e
 .obtain rfl:b=Q.length:=by omega
  rw [Zaa,Zaa,List.getElem?_append_right (by rw [S.lc];exact Zaf _),List.getElem?_append_right (Zaf _),S.lc,Zcj];exact hc
theorem zkf {rs:List Pa} {cs:List (List AV)} {r:Pa} {c:List AV} (h:rs.length=cs.length):List.zipWith Ob.arr (rs++[r]) (cs++[c])=List.zipWith Ob.arr rs cs++[.arr r c]:=by
 rw [Zgk h];rfl
theorem zwl {α:Type} {l e:List α} {c:Nat} {q:α} (hle:e.length=l.length) (hq:e[c]? = some q):(e.take c++l.drop c).set c q=e.take (c+1)++l.drop (c+1):=by
 have hc:=(List.getElem?_eq_some_iff.1 hq).1;rw [Zbg (show c<l.length by omega),dH (by rw [Zai];omega),Zat,hq];simp
theorem mH:∀ (l:List Int) (q:List Rat) (j:Nat),(at' q j=0\/at' q j=1)->at' (l.foldl (λq c=>q.set c.toNat 1) q) j=0\/at' (l.foldl (λq c=>q.set c.toNat 1) q) j=1
 | [],_,_,h=>h
 | c::l,q,j,h=>by
  rw [Zee];refine mH l _ j ?_;by_cases e:c.toNat=j
  .by_cases hj:j<q.length
   .right;rw [at',Zaa,e,List.getElem?_set_self hj];rfl
   .left;exact jN (by rw [Zas];omega)
  .rw [at',Zaa,List.getElem?_set_ne e,<- Zaa];exact h
theorem zeo (n:Nat) (l:List Int) (j:Nat):at' (tF n l) j=0\/at' (tF n l) j=1:=by
 refine mH l _ j (.inl ?_);by_cases hj:j<n
 .rw [at',Zaa,List.getElem?_replicate,if_pos hj];rfl
 .exact jN (by rw [Zau];omega)
end Go.Ev
namespace Go.Ev
open Go Go.Proofs
variable {B:Nat}
set_option maxRecDepth 100000
def qA (n c:Nat):List Rat:=(List.replicate n 0).set c 1
theorem gU (n c:Nat):(qA n c).length=n:=by unfold qA;rw [Zas,Zau]
theorem zbr (n c j:Nat):at' (qA n c) j=0\/at' (qA n c) j=1:=by
 unfold qA;by_cases e:c=j
 .by_cases hj:j<n
  .right;rw [at',Zaa,e,List.getElem?_set_self (by rw [Zau];exact hj)];rfl
  .left;exact jN (by rw [Zas,Zau];omega)
 .left
  rw [at',Zaa,List.getElem?_set_ne e];by_cases hj:j<n
  .rw [List.getElem?_replicate,if_pos hj];rfl
  .rw [List.getElem?_eq_none (by rw [Zau];omega)];rfl
theorem Dn.neg {t M:Nat} {q:Rat} (h:Dn t M q):Dn t M (-q):=by
 obtain ⟨z,e,hz⟩:=h;exact ⟨-z,by rw [Zcu];grind,by omega⟩
theorem zkg:∀ (b g:List Rat) (p:Nat) (x:Rat),p<b.length->b.length=g.length->dot (b.set p x) g=dot b g+(x-at' b p)*at' g p
 | [],_,p,x,h,_=>by simp at h
 | y::b,[],p,x,h,h2=>by simp at h2
 | y::b,z::g,0,x,_,_=>by
  rw [Zfj,dot,dot];show _=_+(x-y)*z
  grind
 | y::b,z::g,p+1,x,h,h2=>by
  have ih:=zkg b g p x (by simpa using h) (by simpa using h2);rw [Zfk,dot,dot,ih];show _=_+(x-at' b p)*at' g p
  grind
def sumA (c:Nat) (g:List Rat):List (List Rat×Nat)->Rat
 | []=>0
 |(q,p)::l=>at' g p*at' q c+sumA c g l
end Go.Ev
namespace Go.Ev
open Go Go.Proofs
theorem dot_comm:∀ (a b:List Rat),dot a b=dot b a
 | [],[]=>rfl
 | [],_::_=>rfl
 | _::_,[]=>rfl
 | x::a,y::b=>by rw [dot,dot,dot_comm a b];grind
theorem xL:∀ (r f:List Rat),(∀ j,at' r j=0)->dot r f=0
 | [],_,_=>by cases ‹List Rat› <;> rfl
 | x::r,[],_=>rfl
 | x::r,y::f,h=>by
  have h0:x=0:=h 0;rw [dot,xL r f λj=>h (j+1),h0];grind
theorem xV (n j:Nat):at' (List.replicate n (0:Rat)) j=0:=by
 by_cases hj:j<n
 .rw [at',Zaa,List.getElem?_replicate,if_pos hj];rfl
 .exact jN (by rw [Zau];omega)
theorem zdg (c:Nat) (g:List Rat) (q:List Rat) (p:Nat):∀ l:List (List Rat×Nat),sumA c g (l++[(q,p)])=sumA c g l+at' g p*at' q c
 | []=>by simp only [Zbl,sumA];grind
 |(q',p')::l=>by rw [Zca,sumA,sumA,zdg c g q p l];grind
structure RkG (n:Nat) (Q:List (List Rat)) (ps:List Nat) (g:List Rat) (k:Nat) (r:List Rat):Prop where
 eq:r=oF ((zipQ Q ps).take k) g
 len:r.length=n
 val:∀ c,at' r c=at' g c-sumA c g ((zipQ Q ps).take k)
 late:∀ b,k<=b->b<Q.length->at' r (ps.getD b 0)=at' g (ps.getD b 0)
 done:∀ b,b<k->b<Q.length->at' r (ps.getD b 0)=0
theorem RkG.all {n t M:Nat} {Q:List (List Rat)} {ps:List Nat} {g:List Rat} (hS:St n t M Q ps) (hg:g.length=n):∀ k,k<=Q.length->RkG n Q ps g k (oF ((zipQ Q ps).take k) g)
 | 0,_=>⟨rfl,hg,λc=>by rw [Zds,oF,sumA];grind,λb _ _=>rfl,λb h=>by omega⟩
 | k+1,hk=>by
  have h:=RkG.all hS hg k (by omega);have hk':k<Q.length:=by omega
  have hq:=yG (d:=[]) hk';have hll:(oF ((zipQ Q ps).take k) g).length=(Q.getD k []).length:=by rw [h.len,hS.row _ hq]
  have hl:=h.late k (Zaf _) hk';refine ⟨rfl,?_,λc => ?_,λb h1 h2 => ?_,λb h1 h2 => ?_⟩
  .rw [wX hS.len hk',kL,j3 hll];exact h.len
  .rw [wX hS.len hk',kL,jK hll,h.val c,zdg,hl];grind
  .rw [wX hS.len hk',kL,jK hll,hS.one k b hk' h2,if_neg (by omega),h.late b (by omega) h2];grind
  .rw [wX hS.len hk',kL,jK hll,hS.one k b hk' h2];by_cases e:b=k
   .subst e;rw [if_pos rfl];grind
   .rw [if_neg (by omega),h.done b (by omega) h2];grind
theorem St.nodup {n t M:Nat} {Q:List (List Rat)} {ps:List Nat} (hS:St n t M Q ps):ps.Nodup:=by
 rw [List.nodup_iff_pairwise_ne,Zff];intro a b ha hb hab e;have ha':a<Q.length:=by have:=hS.len;omega
 have hb':b<Q.length:=by have:=hS.len;omega
 have h1:=hS.one a a ha' ha';have h2:=hS.one a b ha' hb';have e1:ps.getD a 0=ps[a]:=by rw [Zaa,List.getElem?_eq_getElem ha];rfl
 have e2:ps.getD b 0=ps[b]:=by rw [Zaa,List.getElem?_eq_getElem hb];rfl
 rw [if_pos rfl,e1] at h1;rw [if_neg (by omega),e2,<- e,h1] at h2;exact absurd h2 (by decide)
def wdg:List Int->(List Bool->Int)->List Bool->Int
 | _::a,w,false::s=>wdg a (λt=>w (false::t)) s
 | x::a,w,true::s=>x*w (false::s)-wdg a (λt=>w (true::t)) s
 | _,_,_=>0
def ctr:List Int->(List Bool->Int)->List Bool->Int
 | x::a,w,false::s=>ctr a (λt=>w (false::t)) s+x*w (true::s)
 | _::a,w,true::s => -ctr a (λt=>w (true::t)) s
 | _,_,_=>0
def ipf:Nat->(List Bool->Int)->(List Bool->Int)->Int
 | 0,v,w=>v []*w []
 | n+1,v,w=>ipf n (λt=>v (false::t)) (λt=>w (false::t))+ipf n (λt=>v (true::t)) (λt=>w (true::t))
def sqV:List Int->Int
 | []=>0
 | x::a=>x*x+sqV a
def dtI:List Int->List Int->Int
 | x::a,y::b=>x*y+dtI a b
 | _,_=>0
theorem kA:∀ n v w,ipf n v w=ipf n w v
 | 0,_,_=>Int.mul_comm ..
 | n+1,v,w=>by rw [ipf,ipf,kA n,kA n (λt=>v (true::t))]
theorem cC (c:Int):∀ n u v w,ipf n u (λs=>c*v s-w s)=c*ipf n u v-ipf n u w
 | 0,_,_,_=>by simp only [ipf];grind
 | n+1,u,v,w=>by
  simp only [ipf];rw [cC c n _ (λt=>v (false::t)) (λt=>w (false::t)),cC c n _ (λt=>v (true::t)) (λt=>w (true::t))];grind
theorem mD (c:Int):∀ n u v w,ipf n (λs=>v s+c*w s) u=ipf n v u+c*ipf n w u
 | 0,_,_,_=>by simp only [ipf];grind
 | n+1,u,v,w=>by
  simp only [ipf];rw [mD c n _ (λt=>v (false::t)) (λt=>w (false::t)),mD c n _ (λt=>v (true::t)) (λt=>w (true::t))];grind
theorem cB:∀ n u v,ipf n (λs => -v s) u = -ipf n v u
 | 0,_,_=>by simp only [ipf];grind
 | n+1,u,v=>by
  simp only [ipf];rw [cB n _ (λt=>v (false::t)),cB n _ (λt=>v (true::t))];grind
theorem zbs:∀ n w,ipf n (λ_=>0) w=0
 | 0,_=>Int.zero_mul _
 | n+1,w=>by rw [ipf,zbs n,zbs n];rfl
theorem wK:∀ n w,0<=ipf n w w
 | 0,w=>by
  rcases Int.le_total 0 (w []) with h | h
  .exact Zgn h h
  .exact Zdw h h
 | n+1,w=>Int.add_nonneg (wK n _) (wK n _)
theorem zkh (x:Int):0<=x*x:=by
 rcases Int.le_total 0 x with h | h
 .exact Zgn h h
 .exact Zdw h h
theorem zi7:∀ (a:List Int) (v w),ipf a.length v (wdg a w)=ipf a.length (ctr a v) w
 | [],v,w=>by simp only [ipf,wdg,ctr,Zfc];grind
 | x::a,v,w=>by
  show ipf a.length (λt=>v (false::t)) (wdg a λt=>w (false::t))+ipf a.length (λt=>v (true::t)) (λs=>x*w (false::s)-wdg a (λt=>w (true::t)) s)=ipf a.length (λs=>ctr a (λt=>v (false::t)) s+x*v (true::s)) (λt=>w (false::t))+ipf a.length (λs => -ctr a (λt=>v (true::t)) s) (λt=>w (true::t));rw [zi7 a,cC x _ _ (λs=>w (false::s)) (λs=>wdg a (λt=>w (true::t)) s),mD x _ _ (λs=>ctr a (λt=>v (false::t)) s) (λs=>v (true::s)),cB,show (λs=>wdg a (λt=>w (true::t)) s)=wdg a λt=>w (true::t) from rfl,zi7 a]
  grind
theorem zbt:∀ (a:List Int) w,ipf a.length (wdg a w) (wdg a w)+ipf a.length (ctr a w) (ctr a w)=sqV a*ipf a.length w w
 | [],w=>by simp only [ipf,wdg,ctr,sqV,Zfc];grind
 | x::a,w=>by
  have e1:=zbt a λt=>w (false::t);have e2:=zbt a λt=>w (true::t);have e3:=zi7 a (λt=>w (false::t)) (λt=>w (true::t));show ipf a.length (wdg a λt=>w (false::t)) (wdg a λt=>w (false::t))+ipf a.length (λs=>x*w (false::s)-wdg a (λt=>w (true::t)) s) (λs=>x*w (false::s)-wdg a (λt=>w (true::t)) s)+(ipf a.length (λs=>ctr a (λt=>w (false::t)) s+x*w (true::s)) (λs=>ctr a (λt=>w (false::t)) s+x*w (true::s))+ipf a.length (λs => -ctr a (λt=>w (true::t)) s) (λs => -ctr a (λt=>w (true::t)) s))=(x*x+sqV a)*(ipf a.length (λt=>w (false::t)) (λt=>w (false::t))+ipf a.length (λt=>w (true::t)) (λt=>w (true::t)));have c1:∀ u,ipf a.length u (λs=>x*w (false::s)-wdg a (λt=>w (true::t)) s)=x*ipf a.length u (λs=>w (false::s))-ipf a.length u (wdg a λt=>w (true::t)):=λu=>cC x _ _ (λs=>w (false::s)) (λs=>wdg a (λt=>w (true::t)) s);have c2:∀ u,ipf a.length (λs=>ctr a (λt=>w (false::t)) s+x*w (true::s)) u=ipf a.length (ctr a λt=>w (false::t)) u+x*ipf a.length (λs=>w (true::s)) u:=λu=>mD x _ _ (λs=>ctr a (λt=>w (false::t)) s) (λs=>w (true::s));have c3:∀ u,ipf a.length (λs => -ctr a (λt=>w (true::t)) s) u = -ipf a.length (ctr a λt=>w (true::t)) u:=λu=>cB ..;rw [c1,kA _ (λs=>x*w (false::s)-wdg a (λt=>w (true::t)) s),c1,kA _ (λs=>x*w (false::s)-wdg a (λt=>w (true::t)) s),c1,c2,c3,kA _ _ (λs => -ctr a (λt=>w (true::t)) s),c3,kA _ _ (λs=>ctr a (λt=>w (false::t)) s+x*w (true::s)),c2,kA _ _ (λs=>ctr a (λt=>w (false::t)) s+x*w (true::s)),c2];rw [kA _ (wdg a λt=>w (true::t)) (λs=>w (false::s)),kA _ (λs=>w (true::s)) (ctr a λt=>w (false::t)),e3]
  grind
theorem zp6 (a:List Int) (w):ipf a.length (wdg a w) (wdg a w)<=sqV a*ipf a.length w w:=by
 have:=zbt a w;have:=wK a.length (ctr a w);omega
theorem pT (c:Int):∀ (a:List Int) v w s,wdg a (λt=>c*v t-w t) s=c*wdg a v s-wdg a w s
 | [],_,_,_=>by simp only [wdg];grind
 | _::_,_,_,[]=>by simp only [wdg];grind
 | x::a,v,w,false::s=>pT c a (λt=>v (false::t)) (λt=>w (false::t)) s
 | x::a,v,w,true::s=>by
  have:=pT c a (λt=>v (true::t)) (λt=>w (true::t)) s;simp only [wdg] at this ⊢;rw [this];grind
theorem wY:∀ (a b:List Int) w s,a.length=b.length->wdg a (wdg b w) s = -wdg b (wdg a w) s
 | [],[],_,_,_=>by simp only [wdg];rfl
 | _::_,_::_,_,[],_=>by simp only [wdg];rfl
 | x::a,y::b,w,false::s,h=>wY a b (λt=>w (false::t)) s (by simpa using h)
 | x::a,y::b,w,true::s,h=>by
  have ih:=wY a b (λt=>w (true::t)) s (by simpa using h);show x*wdg b (λt=>w (false::t)) s-wdg a (λt=>y*w (false::t)-wdg b (λt=>w (true::t)) t) s = -(y*wdg a (λt=>w (false::t)) s-wdg b (λt=>x*w (false::t)-wdg a (λt=>w (true::t)) t) s);rw [pT y a (λt=>w (false::t)) (wdg b λt=>w (true::t)),pT x b (λt=>w (false::t)) (wdg a λt=>w (true::t)),ih]
  grind
 | [],_::_,_,_,h=>by simp at h
 | _::_,[],_,_,h=>by simp at h
theorem vL:∀ (a:List Int) w s,(∀ t:List Bool,t.length=s.length->w t=0)->wdg a w s=0
 | [],_,_,_=>by simp only [wdg]
 | _::_,_,[],_=>by simp only [wdg]
 | x::a,w,false::s,h=>vL a _ s λt ht=>h _ (by simpa using ht)
 | x::a,w,true::s,h=>by
  simp only [wdg];rw [h (false::s) rfl,vL a _ s λt ht=>h _ (by simpa using ht)];grind
theorem bZ:∀ (a:List Int) w s,wdg a w s≠0->∃ t:List Bool,t.length=s.length/\w t≠0/\t.count true+1=s.count true
 | [],_,_,h=>absurd (by simp only [wdg]) h
 | _::_,_,[],h=>absurd (by simp only [wdg]) h
 | x::a,w,false::s,h=>by
  obtain ⟨t,h1,h2,h3⟩:=bZ a (λt=>w (false::t)) s h;exact ⟨false::t,by simp [h1],h2,by simpa using h3⟩
 | x::a,w,true::s,h=>by
  by_cases c:w (false::s)=0
  .obtain ⟨t,h1,h2,h3⟩:=bZ a (λt=>w (true::t)) s λe=>h (by simp only [wdg];rw [c,e];grind);exact ⟨true::t,by simp [h1],h2,by simpa using h3⟩
  .exact ⟨false::s,rfl,c,by simp⟩
def xvL:List Bool->(List Bool->Int)->List Int
 | [],_=>[]
 | false::s,w=>0::xvL s λt=>w (false::t)
 | true::s,w=>w (false::s)::(xvL s λt=>w (true::t)).map λx => -x
theorem bY:∀ s w,(xvL s w).length=s.length
 | [],_=>rfl
 | false::s,_=>congrArg (· + 1) (bY s _)
 | true::s,_=>congrArg (· + 1) (by rw [Zah];exact bY s _)
theorem zki:∀ a b:List Int,dtI a (b.map λx => -x) = -dtI a b
 | [],_=>by simp only [dtI];rfl
 | _::_,[]=>rfl
 | x::a,y::b=>by rw [Zey,dtI,dtI,zki a b];grind
theorem zkj:∀ b:List Int,sqV (b.map λx => -x)=sqV b
 | []=>rfl
 | y::b=>by rw [Zey,sqV,sqV,zkj b];grind
theorem zep:∀ (a:List Int) w s,s.length=a.length->wdg a w s=dtI a (xvL s w)
 | [],_,[],_=>rfl
 | x::a,w,false::s,h=>by
  show wdg a (λt=>w (false::t)) s=x*0+dtI a _;rw [zep a _ s (by simpa using h)];grind
 | x::a,w,true::s,h=>by
  show x*w (false::s)-wdg a (λt=>w (true::t)) s=x*w (false::s)+dtI a _;rw [zep a _ s (by simpa using h),zki];grind
 | [],_,_::_,h=>by simp at h
 | _::_,_,[],h=>by simp at h
theorem zp7:∀ s w,w s*w s<=ipf s.length w w
 | [],_=>Zgo _
 | false::s,w=>by
  have:=zp7 s λt=>w (false::t);have:=wK s.length λt=>w (true::t);show _<=ipf s.length (λt=>w (false::t)) (λt=>w (false::t))+ipf s.length (λt=>w (true::t)) (λt=>w (true::t));omega
 | true::s,w=>by
  have:=zp7 s λt=>w (true::t);have:=wK s.length λt=>w (false::t);show _<=ipf s.length (λt=>w (false::t)) (λt=>w (false::t))+ipf s.length (λt=>w (true::t)) (λt=>w (true::t));omega
theorem zkk:∀ s w,sqV (xvL s w)<=ipf s.length w w
 | [],w=>wK 0 w
 | false::s,w=>by
  have:=zkk s λt=>w (false::t);have:=wK s.length λt=>w (true::t);show 0*0+sqV (xvL s λt=>w (false::t))<=ipf s.length (λt=>w (false::t)) (λt=>w (false::t))+ipf s.length (λt=>w (true::t)) (λt=>w (true::t));omega
 | true::s,w=>by
  have:=zkk s λt=>w (true::t);have:=zp7 s λt=>w (false::t);show w (false::s)*w (false::s)+sqV ((xvL s λt=>w (true::t)).map λx => -x)<=ipf s.length (λt=>w (false::t)) (λt=>w (false::t))+ipf s.length (λt=>w (true::t)) (λt=>w (true::t));rw [zkj];omega
theorem zp8:∀ (s:List Bool) w,w s≠0->s.count true<s.length->∃ S:List Bool,S.length=s.length/\∃ j,(xvL S w).getD j 0≠0
 | [],_,_,h=>by simp at h
 | false::s,w,h,_=>⟨true::s,rfl,0,h⟩
 | true::s,w,h,hc=>by
  obtain ⟨S,h1,j,hj⟩:=zp8 s (λt=>w (true::t)) h (by simpa using hc);refine ⟨true::S,by simp [h1],j+1,?_⟩;show ((xvL S λt=>w (true::t)).map λx => -x).getD j 0≠0;rw [Zaa] at hj ⊢;rw [List.getElem?_map];cases e:(xvL S λt=>w (true::t))[j]? with
  | none=>rw [e] at hj;exact absurd rfl hj
  | some y=>rw [e] at hj;show -y≠0;have:y≠0:=hj;omega
def oneF:List Bool->Int
 | []=>1
 | false::s=>oneF s
 | true::_=>0
theorem zkl:∀ n,ipf n oneF oneF=1
 | 0=>rfl
 | n+1=>by
  show ipf n oneF oneF+ipf n (λ_=>0) (λ_=>0)=1;rw [zkl n,zbs];rfl
theorem zkm:∀ n,oneF (List.replicate n false)≠0
 | 0=>by decide
 | n+1=>by rw [Zgl];exact zkm n
theorem zkn:∀ s,oneF s≠0->s.count true<=0
 | [],_=>by simp
 | false::s,h=>by simpa using zkn s h
 | true::_,h=>absurd rfl h
theorem zi8 {n:Nat} {B:Int} (hB:1<=B):∀ L:List (List Int),(∀ a∈L,a.length=n/\sqV a<=B)->∃ w:List Bool->Int,(∃ s:List Bool,s.length=n/\w s≠0)/\(∀ s:List Bool,s.length=n->w s≠0->s.count true<=L.length)/\ipf n w w<=B ^ L.length/\∀ a∈L,∀ s:List Bool,s.length=n->wdg a w s=0
 | [],_=>⟨oneF,⟨_,Zau,zkm n⟩,λs _ h=>zkn s h,by rw [zkl];simp,by simp⟩
 | a::L,h=>by
  obtain ⟨w,⟨s0,hs0,hw0⟩,hd,hi,hk⟩:=zi8 hB L λb hb=>h b (Zam _ hb);obtain ⟨hal,haB⟩:=h a (Zaj ..);have hp:(0:Int)<=B ^ L.length:=Zep (by omega);have hpow:B ^ (L.length+1)=B*B ^ L.length:=by rw [Int.pow_succ,Int.mul_comm]
  by_cases c:∀ s:List Bool,s.length=n->wdg a w s=0
  .refine ⟨w,⟨s0,hs0,hw0⟩,λs hs e=>Zgx (hd s hs e),?_,λb hb => ?_⟩
   .rw [Zbb,hpow];have:=Zco hB hp;omega
   .rcases List.mem_cons.1 hb with rfl | hb
    .exact c
    .exact hk b hb
  .obtain ⟨s1,h1,hw1⟩:∃ s:List Bool,s.length=n/\wdg a w s≠0:=by
    refine Classical.byContradiction λe=>c λs hs=>Classical.byContradiction λq=>e ⟨s,hs,q⟩
   refine ⟨wdg a w,⟨s1,h1,hw1⟩,λs hs e => ?_,?_,λb hb s hs => ?_⟩
   .obtain ⟨t,t1,t2,t3⟩:=bZ a w s e;have:=hd t (by rw [t1];exact hs) t2;rw [Zbb];omega
   .rw [Zbb,hpow];have e1:=zp6 a w;rw [hal] at e1;have e2:=Zco haB (wK n w);have e3:=Zdp hi (show (0:Int)<=B by omega);omega
   .rcases List.mem_cons.1 hb with rfl | hb
    .have:=wY b b w s rfl;omega
    .rw [wY b a w s (by rw [(h b (Zam _ hb)).1,hal]),vL a _ s λt ht=>hk b hb t (by rw [ht];exact hs)]
     rfl
theorem hada {n:Nat} {B:Int} (hB:1<=B) (L:List (List Int)) (h:∀ a∈L,a.length=n/\sqV a<=B) (hn:L.length<n):∃ x:List Int,x.length=n/\(∃ j,x.getD j 0≠0)/\sqV x<=B ^ L.length/\∀ a∈L,dtI a x=0:=by
 obtain ⟨w,⟨s,hs,hw⟩,hd,hi,hk⟩:=zi8 hB L h;obtain ⟨S,hS,hj⟩:=zp8 s w hw (by have:=hd s hs hw;omega);have hSn:S.length=n:=by rw [hS,hs]
 refine ⟨xvL S w,by rw [bY];exact hSn,hj,?_,λa ha => ?_⟩
 .have:=zkk S w;rw [hSn] at this;omega
 .rw [<- zep a w S (by rw [hSn,(h a ha).1])];exact hk a ha S hSn
def sI:Nat->(Nat->Int)->Int
 | 0,_=>0
 | k+1,F=>sI k F+F k
theorem zg0 {F G:Nat->Int}:∀ {k:Nat},(∀ j,j<k->F j=G j)->sI k F=sI k G
 | 0,_=>rfl
 | k+1,h=>by rw [sI,sI,zg0 (k:=k) λj hj=>h j (by omega),h k (by omega)]
theorem zbu (x y:Int):∀ a b:List Int,a.length=b.length->dtI (a++[x]) (b++[y])=dtI a b+x*y
 | [],[],_=>by simp only [Zbl,dtI];omega
 | u::a,v::b,h=>by
  rw [Zca,Zca,dtI,dtI,zbu x y a b (by simpa using h)];omega
 | [],_::_,h=>by simp at h
 | _::_,[],h=>by simp at h
theorem mN (f g:Nat->Int):∀ k,dtI ((List.range k).map f) ((List.range k).map g)=sI k λj=>f j*g j
 | 0=>rfl
 | k+1=>by
  rw [Zef,Zaz,Zaz];show dtI (_++[f k]) (_++[g k])=_;rw [zbu _ _ _ _ (by simp),mN f g k,sI]
theorem zp9:∀ l:List Int,(∀ x∈l,x = -1\/x=0\/x=1)->sqV l<=(l.length:Int)
 | [],_=>Zgo _
 | x::l,h=>by
  have:=zp9 l λy hy=>h y (Zam _ hy);rw [sqV,Zbb];rcases h x (Zaj ..) with rfl | rfl | rfl <;> omega
theorem zko:∀ l:List Int,0<=sqV l
 | []=>Zgo _
 | x::l=>Int.add_nonneg (zkh x) (zko l)
theorem zeq:∀ (l:List Int) (j:Nat),l.getD j 0*l.getD j 0<=sqV l
 | [],_=>Zgo _
 | x::l,0=>by
  have:=zko l;show x*x<=x*x+sqV l;omega
 | x::l,j+1=>by
  have:=zeq l j;have:=zkh x;show l.getD j 0*l.getD j 0<=x*x+sqV l;omega
def HB:Nat:=861979
theorem zsj (r:Nat) (hr:r<=11) (a:Nat->Nat->Int) (ha:∀ i j,a i j = -1\/a i j=0\/a i j=1):∃ x:Nat->Int,(∃ j,j<=r/\x j≠0)/\(∀ j,(x j).natAbs<=HB)/\∀ i,i<r->sI (r+1) (λj=>a i j*x j)=0:=by
 obtain ⟨x,hx,⟨j,hj⟩,hs,hk⟩:=hada (n:=r+1) (B:=((r+1:Nat):Int)) (by omega) ((List.range r).map λi=>(List.range (r+1)).map (a i)) (λb hb=>by
  obtain ⟨i,_,rfl⟩:=List.mem_map.1 hb;refine ⟨by simp,?_⟩;have:=zp9 ((List.range (r+1)).map (a i)) λy hy=>by
   obtain ⟨j,_,rfl⟩:=List.mem_map.1 hy;exact ha i j
  simpa using this) (by simp)
 have hxe:x=(List.range (r+1)).map λj=>x.getD j 0:=by
  refine Zeu (by simp [hx]) λi h1 h2 => ?_;simp [Zaa,h1]
 refine ⟨λj=>x.getD j 0,⟨j,?_,hj⟩,λj => ?_,λi hi => ?_⟩
 .refine Classical.byContradiction λc=>hj ?_;rw [Zaa,List.getElem?_eq_none (by omega)];rfl
 .have h1:=zeq x j;rw [Zah,Zdx] at hs;have h2:(r+1) ^ r<=12 ^ 11:=Zax (Nat.pow_le_pow_left (show r+1<=12 by omega) r) (Zcy (by decide) hr);have h3:(((r+1:Nat):Int)) ^ r=(((r+1) ^ r:Nat):Int):=by simp
  rw [h3] at hs;have h4:(12:Nat) ^ 11=743008370688:=by decide
  rw [h4] at h2;show (x.getD j 0).natAbs<=861979;refine Zfx λc => ?_;have h5:=Zcb (show 861980<=(x.getD j 0).natAbs from c) (show 861980<=(x.getD j 0).natAbs from c);have h6:=Zgm (a:=x.getD j 0);omega
 .have:=hk _ (List.mem_map.2 ⟨i,List.mem_range.2 hi,rfl⟩);rw [hxe,mN] at this;exact this
def sR:Nat->(Nat->Rat)->Rat
 | 0,_=>0
 | k+1,F=>sR k F+F k
theorem jJ {F G:Nat->Rat}:∀ {k:Nat},(∀ j,j<k->F j=G j)->sR k F=sR k G
 | 0,_=>rfl
 | k+1,h=>by rw [sR,sR,jJ (k:=k) λj hj=>h j (by omega),h k (by omega)]
theorem xT (F:Nat->Int):∀ k,sR k (λj=>(F j:Rat))=((sI k F:Int):Rat)
 | 0=>rfl
 | k+1=>by rw [sR,sI,xT F k,Zfe]
theorem zes (x:Nat->Rat) (i:Nat):∀ k,sR k (λb=>(if i=b then 1 else 0)*x b)=if i<k then x i else 0
 | 0=>by rw [if_neg (by omega)];rfl
 | k+1=>by
  rw [sR,zes x i k];by_cases e:i=k
  .subst e;rw [if_neg (by omega),if_pos rfl,if_pos (by omega)];grind
  .rw [if_neg e];by_cases c:i<k
   .rw [if_pos c,if_pos (by omega)];grind
   .rw [if_neg c,if_neg (by omega)];grind
theorem zg1 (y:Rat):∀ (o f:List Rat) (c:Nat),o.length=f.length->c<f.length->dot o (f.set c (at' f c+y))=dot o f+at' o c*y
 | [],[],c,_,h=>by simp at h
 | a::o,b::f,0,_,_=>by
  show dot (a::o) ((b+y)::f)=dot (a::o) (b::f)+a*y;rw [dot,dot];grind
 | a::o,b::f,c+1,h,hc=>by
  have ih:=zg1 y o f c (by simpa using h) (by simpa using hc);show dot (a::o) (b::f.set c (at' f c+y))=dot (a::o) (b::f)+at' o c*y;rw [dot,dot,ih];grind
 | [],_::_,_,h,_=>by simp at h
 | _::_,[],_,h,_=>by simp at h
theorem pJ:∀ (o:List Rat) (n:Nat),dot o (List.replicate n 0)=0
 | [],_=>by cases ‹Nat› <;> rfl
 | a::o,0=>rfl
 | a::o,n+1=>by rw [Zgl,dot,pJ o n];grind
def plF (n:Nat) (c:Nat->Nat) (x:Nat->Rat):Nat->List Rat
 | 0=>List.replicate n 0
 | k+1=>(plF n c x k).set (c k) (at' (plF n c x k) (c k)+x k)
theorem kQ {n:Nat} {c:Nat->Nat} {x:Nat->Rat}:∀ k,(plF n c x k).length=n
 | 0=>Zau
 | k+1=>by rw [plF,Zas];exact kQ k
theorem xZ {n:Nat} {c:Nat->Nat} {x:Nat->Rat} {o:List Rat} (ho:o.length=n):∀ k,(∀ i,i<k->c i<n)->dot o (plF n c x k)=sR k λi=>at' o (c i)*x i
 | 0,_=>pJ ..
 | k+1,h=>by rw [plF,zg1 _ _ _ _ (by rw [kQ];exact ho) (by rw [kQ];exact h k (by omega)),xZ ho k λi hi=>h i (by omega),sR]
structure Sv (n:Nat) (O Q:List (List Rat)) (ps:List Nat):Prop where
 len:ps.length=Q.length
 olen:O.length=Q.length
 row:∀ q∈Q,q.length=n
 oG:∀ o∈O,o.length=n
 osg:∀ o∈O,∀ j,Sg (at' o j)
 rng:∀ p∈ps,p<n
 one:∀ a b,a<Q.length->b<Q.length->at' (Q.getD a []) (ps.getD b 0)=if a=b then 1 else 0
 ker:∀ f:List Rat,f.length=n->(∀ o∈O,dot o f=0)->∀ q∈Q,dot q f=0
 tri:∀ a,a<Q.length->∀ b,ps.getD a 0<b->at' (Q.getD a []) b=0
theorem Sv.nil (n:Nat):Sv n [] [] []:=⟨rfl,rfl,by simp,by simp,by simp,by simp,λa b h=>by simp at h,by simp,λa h=>by simp at h⟩
def sgI (q:Rat):Int:=if q = -1 then -1 else if q=1 then 1 else 0
theorem Sg.int {q:Rat} (h:Sg q):(sgI q:Rat)=q:=by
 unfold sgI;rcases h with rfl | rfl | rfl
 .rw [if_pos rfl];rfl
 .rw [if_neg (by decide),if_neg (by decide)];rfl
 .rw [if_neg (by decide),if_pos rfl];rfl
theorem zet (q:Rat):sgI q = -1\/sgI q=0\/sgI q=1:=by
 unfold sgI;split
 .exact .inl rfl
 .split
  .exact .inr (.inr rfl)
  .exact .inr (.inl rfl)
theorem Sv.col {n:Nat} {O Q:List (List Rat)} {ps:List Nat} (h:Sv n O Q ps) (hQ:Q.length<=11) (j:Nat):∃ t,1<=t/\t<=HB/\∀ q∈Q,Dn t (HB) (at' q j):=by
 rcases Zcz j n with hj | hj
 case inr =>
  refine ⟨1,Zaf _,(by decide:1<=HB),λq hq => ?_⟩;rw [jN (by rw [h.row q hq];exact hj)];exact Dn.zero _ _
 obtain ⟨c,hc⟩:∃ c:Nat->Nat,c=λi=>if i<Q.length then ps.getD i 0 else j:=⟨_,rfl⟩
 obtain ⟨x,⟨b,hb,hb0⟩,hx,hz⟩:=zsj Q.length hQ (λi k=>sgI (at' (O.getD i []) (c k))) λi k=>zet _;have hcn:∀ i,i<Q.length+1->c i<n:=λi _=>by
  rw [hc];show (if i<Q.length then ps.getD i 0 else j)<n;by_cases q:i<Q.length
  .rw [if_pos q];exact h.rng _ (yG (by rw [h.len];exact q))
  .rw [if_neg q];exact hj
 have hk:=h.ker (plF n c (λi=>(x i:Rat)) (Q.length+1)) (kQ _) λo ho=>by
  obtain ⟨i,hi⟩:=List.mem_iff_getElem?.1 ho;have hil:=(List.getElem?_eq_some_iff.1 hi).1;have hio:O.getD i []=o:=by rw [Zaa,hi];rfl
  rw [xZ (h.oG o ho) _ hcn];have:=hz i (by rw [<- h.olen];exact hil);rw [show (0:Rat)=((0:Int):Rat) from rfl,<- this,<- xT];refine jJ λk _ => ?_;rw [hio,Zcg,(h.osg o ho _).int]
 have hrow:∀ i,i<Q.length->(x i:Rat)+at' (Q.getD i []) j*(x Q.length:Rat)=0:=λi hi=>by
  have hm:=yG (l:=Q) (d:=[]) hi;have e:=hk _ hm;rw [xZ (h.row _ hm) _ hcn,sR] at e;have e2:sR Q.length (λk=>at' (Q.getD i []) (c k)*(x k:Rat))=(x i:Rat):=by
   rw [jJ (G:=λb=>(if i=b then 1 else 0)*(x b:Rat)) λk hk => ?_,zes (λb=>(x b:Rat)),if_pos hi];have:c k=ps.getD k 0:=by rw [hc];exact if_pos hk
   rw [this,h.one i k hi hk]
  rw [e2,show c Q.length=j by rw [hc];exact if_neg (Zdg _)] at e;exact e
 have hxr:x Q.length≠0:=λe=>by
  rcases Zcz b Q.length with q | q
  .have:=hrow b q;rw [e,show ((0:Int):Rat)=0 from rfl,Zbx,Zdu] at this;exact vD hb0 this
  .obtain rfl:b=Q.length:=by omega
   exact hb0 e
 refine ⟨(x Q.length).natAbs,by omega,hx _,λq hq => ?_⟩;obtain ⟨i,hi⟩:=List.mem_iff_getElem?.1 hq;have hil:=(List.getElem?_eq_some_iff.1 hi).1;have hqi:Q.getD i []=q:=by rw [Zaa,hi];rfl
 have e:=hrow i hil;rw [hqi] at e;by_cases s:0<x Q.length
 .refine ⟨-x i,?_,by rw [Zdr];exact hx i⟩;rw [show (((x Q.length).natAbs:Nat):Int)=x Q.length by omega,Zcu];grind
 .refine ⟨x i,?_,hx i⟩;rw [show (((x Q.length).natAbs:Nat):Int) = -x Q.length by omega,Zcu];grind
theorem Sv.den {n:Nat} {O Q:List (List Rat)} {ps:List Nat} (h:Sv n O Q ps) (hQ:Q.length<=11):∃ t:Nat->Nat,(∀ j,1<=t j/\t j<=HB)/\∀ q∈Q,∀ j,Dn (t j) (HB) (at' q j) :=
 ⟨λj=>Classical.choose (h.col hQ j),λj=>⟨(Classical.choose_spec (h.col hQ j)).1,(Classical.choose_spec (h.col hQ j)).2.1⟩,λq hq j=>(Classical.choose_spec (h.col hQ j)).2.2 q hq⟩
structure Rvq (n:Nat) (t:Nat->Nat) (M:Nat) (Q:List (List Rat)) (ps:List Nat) (r0:List Rat) (k:Nat) (r:List Rat):Prop where
 eq:r=oF ((zipQ Q ps).take k) r0
 len:r.length=n
 den:∀ j,Dn (t j) (M+k*M) (at' r j)
 late:∀ b,k<=b->b<Q.length->at' r (ps.getD b 0)=at' r0 (ps.getD b 0)
 done:∀ b,b<k->b<Q.length->at' r (ps.getD b 0)=0
theorem Rvq.zero {n M:Nat} {t:Nat->Nat} {Q:List (List Rat)} {ps:List Nat} {r0:List Rat} (ht:∀ j,t j<=M) (hl:r0.length=n) (hs:∀ j,Sg (at' r0 j)):Rvq n t M Q ps r0 0 r0 :=
 ⟨rfl,hl,λj=>(hs j).dn (by have:=ht j;omega),λb _ _=>rfl,λb h=>by omega⟩
theorem Rvq.next {n M k:Nat} {t:Nat->Nat} {O Q:List (List Rat)} {ps:List Nat} {r0 r:List Rat} (hS:Sv n O Q ps) (hd:∀ q∈Q,∀ j,Dn (t j) M (at' q j)) (hs:∀ j,Sg (at' r0 j)) (h:Rvq n t M Q ps r0 k r) (hk:k<Q.length):Rvq n t M Q ps r0 (k+1) (jT (at' r (ps.getD k 0)) r (Q.getD k [])):=by
 have hq:=yG (d:=[]) hk;have hql:=hS.row _ hq;have hll:r.length=(Q.getD k []).length:=by rw [h.len,hql]
 have hb:Sg (at' r (ps.getD k 0)):=by rw [h.late k (Zaf _) hk];exact hs _
 refine ⟨by rw [wX hS.len hk,kL,<- h.eq],by rw [j3 hll];exact h.len,λj => ?_,λb h1 h2 => ?_,λb h1 h2 => ?_⟩
 .rw [jK hll];have:=(h.den j).sub (hb.mul (hd _ hq j));exact this.mono (by rw [Zbd];omega)
 .rw [jK hll,hS.one k b hk h2,if_neg (by omega),Zbx,h.late b (by omega) h2];grind
 .rw [jK hll,hS.one k b hk h2];by_cases e:b=k
  .subst e;rw [if_pos rfl,Rat.mul_one];grind
  .rw [if_neg (by omega),Zbx,h.done b (by omega) h2];grind
structure Nv (n:Nat) (Q:List (List Rat)) (ps:List Nat) (p:Nat) (r:List Rat):Prop where
 len:r.length=n
 one:at' r p=1
 out:∀ b,b<Q.length->at' r (ps.getD b 0)=0
 p1:p<n
 tri:∀ b,p<b->at' r b=0
theorem Sv.next {n p:Nat} {O Q:List (List Rat)} {ps:List Nat} {r r0:List Rat} (hS:Sv n O Q ps) (h:Nv n Q ps p r) (hl0:r0.length=n) (hs0:∀ j,Sg (at' r0 j)) (hk:∀ f:List Rat,f.length=n->(∀ q∈Q,dot q f=0)->dot r0 f=0->dot r f=0):Sv n (O++[r0]) (xD Q p r++[r]) (ps++[p]):=by
 have hnl:(xD Q p r).length=Q.length:=by unfold xD;rw [Zah]
 refine ⟨by rw [Zae,Zae,hnl,hS.len];rfl,by rw [Zae,Zae,hnl,hS.olen];rfl,λq hq => ?_,λo ho => ?_,λo ho => ?_,λx hx => ?_,λa b ha hb => ?_,λf hf ho q hq => ?_,λa ha b hb => ?_⟩
 .rcases List.mem_append.1 hq with hq | hq
  .obtain ⟨o,ho,rfl⟩:=List.mem_map.1 hq;rw [j3 (by rw [hS.row o ho,h.len])];exact hS.row o ho
  .obtain rfl:=List.mem_singleton.1 hq;exact h.len
 .rcases List.mem_append.1 ho with ho | ho
  .exact hS.oG o ho
  .obtain rfl:=List.mem_singleton.1 ho;exact hl0
 .rcases List.mem_append.1 ho with ho | ho
  .exact hS.osg o ho
  .obtain rfl:=List.mem_singleton.1 ho;exact hs0
 .rcases List.mem_append.1 hx with hx | hx
  .exact hS.rng x hx
  .obtain rfl:=List.mem_singleton.1 hx;exact h.p1
 .rw [Zae,hnl,Zbf] at ha hb;have eb:(ps++[p]).getD b 0=if b<Q.length then ps.getD b 0 else p:=by
   by_cases c:b<Q.length
   .rw [if_pos c,Zaa,List.getElem?_append_left (by rw [hS.len];exact c),<- Zaa]
   .rw [if_neg c,Zaa,List.getElem?_append_right (by rw [hS.len];omega),hS.len,show b-Q.length=0 by omega];rfl
  have ea:(xD Q p r++[r]).getD a []=if a<Q.length then jT (at' (Q.getD a []) p) (Q.getD a []) r else r:=by
   by_cases c:a<Q.length
   .rw [if_pos c,Zaa,List.getElem?_append_left (by rw [hnl];exact c),xD,List.getElem?_map,gR (d:=[]) c];rfl
   .rw [if_neg c,Zaa,List.getElem?_append_right (by rw [hnl];omega),hnl,show a-Q.length=0 by omega];rfl
  rw [ea,eb];by_cases c1:a<Q.length
  .have hl:(Q.getD a []).length=r.length:=by rw [hS.row _ (yG c1),h.len]
   rw [if_pos c1,jK hl];by_cases c2:b<Q.length
   .rw [if_pos c2,h.out b c2,hS.one a b c1 c2,Zbx];grind
   .rw [if_neg c2,h.one,if_neg (by omega)];grind
  .rw [if_neg c1];by_cases c2:b<Q.length
   .rw [if_pos c2,h.out b c2,if_neg (by omega)]
   .rw [if_neg c2,h.one,if_pos (by omega)]
 .have hQ:=hS.ker f hf λo h1=>ho o (Zbw _ h1);have hr:=hk f hf hQ (ho r0 (by simp));rcases List.mem_append.1 hq with hq | hq
  .obtain ⟨o,h1,rfl⟩:=List.mem_map.1 hq;rw [q0 _ _ _ _ (by rw [hS.row o h1,h.len]),hQ o h1,hr,Zbx];grind
  .obtain rfl:=List.mem_singleton.1 hq;exact hr
 .rw [Zae,hnl,Zbf] at ha;by_cases c1:a<Q.length
  .have eb:(ps++[p]).getD a 0=ps.getD a 0:=by
    rw [Zaa,List.getElem?_append_left (by rw [hS.len];exact c1),<- Zaa]
   have ea:(xD Q p r++[r]).getD a []=jT (at' (Q.getD a []) p) (Q.getD a []) r:=by
    rw [Zaa,List.getElem?_append_left (by rw [hnl];exact c1),xD,List.getElem?_map,gR (d:=[]) c1];rfl
   rw [eb] at hb;have hl:(Q.getD a []).length=r.length:=by rw [hS.row _ (yG c1),h.len]
   rw [ea,jK hl,hS.tri a c1 b hb];by_cases c2:p<b
   .rw [h.tri b c2,Zbx];grind
   .rw [hS.tri a c1 p (by omega),Zbj];grind
  .obtain rfl:a=Q.length:=by omega
   have eb:(ps++[p]).getD Q.length 0=p:=by
    rw [Zaa,List.getElem?_append_right (by rw [hS.len];exact Zaf _),hS.len,Zcj];rfl
   have ea:(xD Q p r++[r]).getD Q.length []=r:=by
    rw [Zaa,List.getElem?_append_right (by rw [hnl];exact Zaf _),hnl,Zcj];rfl
   rw [eb] at hb;rw [ea];exact h.tri b hb
theorem rq {B:Nat}:mZ Tryz.prog B Prop:=za7 mixed
variable {B:Nat}
theorem zi9 {a b:List Int} (ha:a.length<=1000000000):Pure Tryz.prog B 49 [encI a,encI b] (· = .bool (decide (a=b))):=by
 intro p h nx K hK;refine zM zQ rq (a.length+2) λhf => ?_;rw [F49.go];simp (disch:=omega) only [ug,dh,nk,wm,bq,jk,nV,di,fC,zY,zZ,zD,zC,yO,jB,j5,jH,jF,jD,jC,gA,jZ,jY,jX,zX,yH,yJ,zG,decide_true,decide_false,Zap,Zan,jR];by_cases hl:a.length=b.length
 .simp only [hl,decide_true,Zap,zC];refine F49.L2 (λm z3 h' nx'=>∃ i:Nat,z3=I i/\m=a.length-i/\i<=a.length/\h'=h/\nx'=nx/\a.take i=b.take i) (m:=a.length) (by omega) ⟨0,rfl,by simp,by omega,rfl,rfl,by simp⟩ ?_;rintro m z2 z3 z5 z6 _ _ R ⟨i,rfl,rfl,hi,rfl,rfl,htk⟩ hR;simp (disch:=omega) only [ug,dh,nk,wm,bq,jk,nV,di,fC,zY,zZ,zD,zC,yO,jB,j5,jH,jF,jD,jC,gA,jZ,jY,jX,zX,yH,yJ,zG,decide_true,decide_false,Zap,Zan,jR];by_cases hlt:i<a.length
  .have h1:(i:Int)<a.length:=by omega
   have hb:i<b.length:=by omega
   simp only [h1,decide_true,zD];rw [fF rfl hlt,ldL (aO (List.getElem?_eq_getElem hlt)),fF rfl hb,ldL (aO (List.getElem?_eq_getElem hb))];simp (disch:=omega) only [ug,dh,nk,wm,bq,jk,nV,di,fC,zY,zZ,zD,zC,yO,jB,j5,jH,jF,jD,jC,gA,jZ,jY,jX,zX,yH,yJ,zG,decide_true,decide_false,Zap,Zan,jR];by_cases he:a[i]=b[i]
   .simp only [he,decide_true,Zap,zC];refine hR (a.length-(i+1)) _ _ _ _ _ _ (by omega) ⟨i+1,rfl,rfl,by omega,rfl,rfl,?_⟩;rw [Zat,Zat,htk,List.getElem?_eq_getElem hlt,List.getElem?_eq_getElem hb,he]
   .simp only [he,decide_false,Zan,zD];refine hK _ ?_ hf;rw [Zab];rintro rfl;exact he rfl
  .have h1:¬ (i:Int)<a.length:=by omega
   simp only [h1,decide_false,zC];rw [F49.k9];refine hK _ ?_ hf;rw [Zaq (by omega),Zaq (by omega)] at htk;rw [Zac htk]
 .have h1:¬ (a.length:Int)=b.length:=by omega
  simp only [h1,decide_false,Zan,zD];refine hK _ ?_ hf;rw [Zab];rintro rfl;exact hl rfl
end Go.Ev
namespace Go.Ev
open Go Go.Proofs
variable {B:Nat}
theorem pS (b:Bool) (e:Int):Pure Tryz.prog B 88 [.bool b,I e] (· = I (if b then e else 0)):=by
 intro p h nx K hK;refine zM zQ rq 9 λhf => ?_;rw [F88.go];cases b <;> simp (disch:=omega) only [ug,dh,nk,wm,bq,jk,nV,di,fC,zY,zZ,zD,zC,yO,jB,j5,jH,jF,jD,jC,gA,jZ,jY,jX,zX,yH,yJ,zG,decide_true,decide_false,Zap,Zan,jR] <;> exact hK _ rfl hf
def kZ:List Int->Int
 | []=>0
 | e::l=>if e≠0 then e else kZ l
theorem vX:∀ (l:List Int) (i:Nat),(∀ e∈l.take i,e=0)->kZ l=kZ (l.drop i)
 | l,0,_=>rfl
 | [],_+1,_=>rfl
 | e::l,i+1,h=>by
  have h0:e=0:=h e (by simp);rw [kZ,if_neg (by simp [h0]),List.drop_succ_cons];exact vX l i λx hx=>h x (by simp [hx])
theorem zg2 {l:List Int} (hl:l.length<=1000000):Pure Tryz.prog B 86 [encI l] (· = I (kZ l)):=by
 intro p h nx K hK;refine zM zQ rq 10000000 λhf => ?_;rw [F86.go];simp (disch:=omega) only [ug,dh,nk,wm,bq,jk,nV,di,fC,zY,zZ,zD,zC,yO,jB,j5,jH,jF,jD,jC,gA,jZ,jY,jX,zX,yH,yJ,zG,decide_true,decide_false,Zap,Zan,jR];refine F86.L1 (λm z5 h' nx'=>∃ i:Nat,z5=I i/\l.length-i=m/\i<=l.length/\h'=h/\nx'=nx/\∀ e∈l.take i,e=0) (m:=l.length) (by omega) ⟨0,rfl,rfl,by omega,rfl,rfl,by simp⟩ ?_;rintro m z1 z2 z5 z6 z7 _ _ R ⟨i,rfl,rfl,hi,rfl,rfl,htk⟩ hR;simp (disch:=omega) only [ug,dh,nk,wm,bq,jk,nV,di,fC,zY,zZ,zD,zC,yO,jB,j5,jH,jF,jD,jC,gA,jZ,jY,jX,zX,yH,yJ,zG,decide_true,decide_false,Zap,Zan,jR];by_cases hlt:i<l.length
 .simp only [show (i:Int)<(l.length:Int) by omega,decide_true,zD];have hx:l[i]? = some l[i]:=List.getElem?_eq_getElem hlt;rw [fF rfl hlt,ldL (aO hx)];simp (disch:=omega) only [ug,dh,nk,wm,bq,jk,nV,di,fC,zY,zZ,zD,zC,yO,jB,j5,jH,jF,jD,jC,gA,jZ,jY,jX,zX,yH,yJ,zG,decide_true,decide_false,Zap,Zan,jR];have hd:l.drop i=l[i]::l.drop (i+1):=Zbg hlt;by_cases h0:l[i]=0
  .simp only [h0,decide_true,Zap,zC];refine hR _ _ _ _ _ _ _ _ (by omega) ⟨i+1,rfl,rfl,by omega,rfl,rfl,λe he => ?_⟩;rw [Zat,hx] at he;rcases List.mem_append.1 he with q | q
   .exact htk e q
   .simp at q;rw [q];exact h0
  .simp only [h0,decide_false,Zan,zD];refine hK _ ?_ hf;rw [vX l i htk,hd,kZ,if_pos h0]
 .simp only [show ¬ (i:Int)<(l.length:Int) by omega,decide_false,zC];rw [F86.k8];refine hK _ ?_ hf;rw [vX l i htk,Zbr (by omega)];rfl
theorem zqa {a b:List Int} (ha:a.length<=1000000000):Pure Tryz.prog B 177 [encI a,encI b] (· = .bool (decide (a=b))):=by
 intro p h nx K hK;refine zM zQ rq (a.length+2) λhf => ?_;rw [xg.go];simp (disch:=omega) only [ug,dh,nk,wm,bq,jk,nV,di,fC,zY,zZ,zD,zC,yO,jB,j5,jH,jF,jD,jC,gA,jZ,jY,jX,zX,yH,yJ,zG,decide_true,decide_false,Zap,Zan,jR];by_cases hl:a.length=b.length
 .simp only [hl,decide_true,Zap,zC];refine xg.L2 (λm z6 h' nx'=>∃ i:Nat,z6=I i/\a.length-i=m/\i<=a.length/\h'=h/\nx'=nx/\a.take i=b.take i) (m:=a.length) (by omega) ⟨0,rfl,by simp,by omega,rfl,rfl,by simp⟩ ?_;rintro m z2 z3 z6 z7 z8 _ _ R ⟨i,rfl,rfl,hi,rfl,rfl,htk⟩ hR;simp (disch:=omega) only [ug,dh,nk,wm,bq,jk,nV,di,fC,zY,zZ,zD,zC,yO,jB,j5,jH,jF,jD,jC,gA,jZ,jY,jX,zX,yH,yJ,zG,decide_true,decide_false,Zap,Zan,jR];by_cases hlt:i<a.length
  .have hb:i<b.length:=by omega
   simp only [show (i:Int)<(b.length:Int) by omega,decide_true,zD];rw [fF rfl hlt,ldL (aO (List.getElem?_eq_getElem hlt)),fF rfl hb,ldL (aO (List.getElem?_eq_getElem hb))];simp (disch:=omega) only [ug,dh,nk,wm,bq,jk,nV,di,fC,zY,zZ,zD,zC,yO,jB,j5,jH,jF,jD,jC,gA,jZ,jY,jX,zX,yH,yJ,zG,decide_true,decide_false,Zap,Zan,jR];by_cases he:a[i]=b[i]
   .simp only [he,decide_true,Zap,zC];refine hR (a.length-(i+1)) _ _ _ _ _ _ _ (by omega) ⟨i+1,rfl,rfl,by omega,rfl,rfl,?_⟩;rw [Zat,Zat,htk,List.getElem?_eq_getElem hlt,List.getElem?_eq_getElem hb,he]
   .simp only [he,decide_false,Zan,zD];refine hK _ ?_ hf;rw [Zab];rintro rfl;exact he rfl
  .simp only [show ¬ (i:Int)<(b.length:Int) by omega,decide_false,zC];rw [xg.k9];refine hK _ ?_ hf;rw [Zaq (by omega),Zaq (by omega)] at htk;rw [Zac htk]
 .have h1:¬ (a.length:Int)=b.length:=by omega
  simp only [h1,decide_false,Zan,zD];refine hK _ ?_ hf;rw [Zab];rintro rfl;exact hl rfl
theorem zg3 {h0 h:T Blk} {nx:Pa} {L:List Ob} {k:Nat} {x p:Pa} {l:List Int} {prev:List (List Int)} {K:Kw Prop} (H:Hp h0 h nx L) (hk:L[k]? = some (.arr x [encI l])) (hp:prev.length<=1000000) (hw:∀ q∈prev,q.length<=1000000)
  (hK:K (.bool (decide (l∈prev))) h nx=.ok True):(CS Tryz.prog B).fn 175 p [xk prev,.fn 176 (.of 176) [.ptr x 0]] h nx K=.ok True:=by
 refine uO (p:=.of 175) (K:=K) (zM zQ rq 9 λhf => ?_) λ_ _ _ _ q=>q;rw [aD.go];refine uO (p:=.of 245) (K:=λv1 h2 n3=>zb .geq .int v1 (I 0) λv4=>K v4 h2 n3) (zM zQ rq 10000000 λhf => ?_) λ_ _ _ _ q=>q;rw [wz.go];simp (disch:=omega) only [ug,dh,nk,wm,bq,jk,nV,di,fC,zY,zZ,zD,zC,yO,jB,j5,jH,jF,jD,jC,gA,jZ,jY,jX,zX,yH,yJ,zG,decide_true,decide_false,Zap,Zan,jR];refine wz.L1 (λm z5 h' nx'=>∃ i:Nat,z5=I i/\prev.length-i=m/\i<=prev.length/\h'=h/\nx'=nx/\l∉prev.take i) (m:=prev.length) (by omega) ⟨0,rfl,rfl,by omega,rfl,rfl,by simp⟩ ?_;rintro m z2 z3 z5 z6 z7 _ _ R ⟨i,rfl,rfl,hi,rfl,rfl,htk⟩ hR;simp (disch:=omega) only [ug,dh,nk,wm,bq,jk,nV,di,fC,zY,zZ,zD,zC,yO,jB,j5,jH,jF,jD,jC,gA,jZ,jY,jX,zX,yH,yJ,zG,decide_true,decide_false,Zap,Zan,jR];by_cases hlt:i<prev.length
 .simp only [show (i:Int)<(prev.length:Int) by omega,decide_true,zD];have hx:prev[i]? = some prev[i]:=List.getElem?_eq_getElem hlt;rw [fF rfl hlt,ldL (getT hx),pW];refine uO (p:=.of 176) (zM zQ rq 9 λhf => ?_) λ_ _ _ _ q=>q;show zR tbl 9 _ (Pa.of 176) [encI prev[i],.ptr x 0] _ _ _=_;rw [aC.go,H.load (k:=k) (i:=0) hk rfl];refine zqa (Zax (hw _ (Zav hlt)) (by omega)) _ _ _ _ ?_;rintro _ rfl _;by_cases he:prev[i]=l
  .simp only [he,decide_true,zD,fC,show (0:Int)<=(i:Int) by omega];rw [Zac (he ▸ Zav hlt)] at hK;exact hK
  .simp only [he,decide_false,zC];refine hR _ _ _ _ _ _ _ _ (by omega) ⟨i+1,rfl,rfl,by omega,rfl,rfl,λq => ?_⟩;rw [Zat,hx] at q;rcases List.mem_append.1 q with q | q
   .exact htk q
   .simp at q;exact he q.symm
 .simp only [show ¬ (i:Int)<(prev.length:Int) by omega,decide_false,zC];rw [wz.k8];rw [Zaq (by omega)] at htk;rw [Zab htk] at hK;simp only [fC,show ¬ (0:Int) <= -1 by omega,decide_false];exact hK
def yX (cells:Int):Option Int->List Int->Int
 | _,[]=>0
 | p,c::l=>if c<0\/cells<=c then 10 else if p.any (λq=>decide (c<=q)) then 11 else yX cells (some c) l
def jP (cells:Int) (prev:List (List Int)) (l:List Int):Int:=if l=[] then 12 else if yX cells none l≠0 then yX cells none l else if l∈prev then 9 else 0
def uF (cells:Int):List (List Int)->List (List Int)->Int
 | _,[]=>0
 | prev,l::r=>if jP cells prev l≠0 then jP cells prev l else uF cells (prev++[l]) r
def jV (cells:Int) (lines:List (List Int)):Int:=if cells<1\/256<cells then 3 else if 128<lines.length then 5 else uF cells [] lines
def pv (l:List Int) (k:Nat):Option Int:=if k=0 then none else l[k-1]?
theorem p8 {l:List Int} {k:Nat} (h:k<l.length):pv l (k+1)=some l[k]:=by simp [pv,h]
theorem zkp {cells a b:Int} {lines:List (List Int)} (hb:b<=1000000):Pure Tryz.prog B 16 [.agg [I cells,xk lines],I a,I b] (· = .bool (decide ((lines.length:Int)<=b/\∀ l∈lines,(l.length:Int)<=a))):=by
 refine zT λh nx K H0 hK=>zM zQ rq 10000000 λhf => ?_;rw [F16.go];refine H0.box (l:=[I cells,xk lines]) rfl λbx h1 nx1 H1 => ?_;rw [sFx,H1.load (k:=0) (i:=0+1) rfl rfl];simp (disch:=omega) only [ug,dh,nk,wm,bq,jk,nV,di,fC,zY,zZ,zD,zC,yO,jB,j5,jH,jF,jD,jC,gA,jZ,jY,jX,zX,yH,yJ,zG,decide_true,decide_false,Zap,Zan,jR];have ret:∀ v:Bool,v=decide ((lines.length:Int)<=b/\∀ l∈lines,(l.length:Int)<=a)->K (.bool v) h1 nx1=.ok True:=λv hv=>by rw [hv];exact hK _ _ _ _ _ H1 (zV rfl) rfl
 by_cases hlen:b<(lines.length:Int)
 .simp only [hlen,decide_true,zD];refine ret _ ?_;rw [Zab];rintro ⟨q,_⟩;omega
 simp only [hlen,decide_false,zC];refine F16.L2 (λm z5 h' nx'=>∃ i:Nat,z5=I i/\lines.length-i=m/\i<=lines.length/\h'=h1/\nx'=nx1/\∀ l∈lines.take i,(l.length:Int)<=a) (m:=lines.length) (by omega) ⟨0,rfl,rfl,by omega,rfl,rfl,by simp⟩ ?_;rintro m z4 z5 z7 z8 _ _ R ⟨i,rfl,rfl,hi,rfl,rfl,htk⟩ hR;rw [sFx,H1.load (k:=0) (i:=0+1) rfl rfl];simp (disch:=omega) only [ug,dh,nk,wm,bq,jk,nV,di,fC,zY,zZ,zD,zC,yO,jB,j5,jH,jF,jD,jC,gA,jZ,jY,jX,zX,yH,yJ,zG,decide_true,decide_false,Zap,Zan,jR];by_cases hlt:i<lines.length
 .simp only [show (i:Int)<(lines.length:Int) by omega,decide_true,zD];have hx:lines[i]? = some lines[i]:=List.getElem?_eq_getElem hlt;rw [sFx,H1.load (k:=0) (i:=0+1) rfl rfl,fF rfl hlt,ldL (getT hx)];simp (disch:=omega) only [ug,dh,nk,wm,bq,jk,nV,di,fC,zY,zZ,zD,zC,yO,jB,j5,jH,jF,jD,jC,gA,jZ,jY,jX,zX,yH,yJ,zG,decide_true,decide_false,Zap,Zan,jR];by_cases hw:a<(lines[i].length:Int)
  .simp only [hw,decide_true,zD];refine ret _ ?_;rw [Zab];rintro ⟨_,q⟩;have:=q _ (Zav hlt);omega
  .simp only [hw,decide_false,zC];refine hR _ _ _ _ _ _ _ (by omega) ⟨i+1,rfl,rfl,by omega,rfl,rfl,λl hl => ?_⟩;rw [Zat,hx] at hl;rcases List.mem_append.1 hl with q | q
   .exact htk l q
   .simp at q;rw [q];omega
 .simp only [show ¬ (i:Int)<(lines.length:Int) by omega,decide_false,zC];rw [F16.k9];rw [Zaq (by omega)] at htk;refine ret _ ?_;rw [Zac ⟨by omega,htk⟩]
theorem zmf {prev:List (List Int)} {l:List Int} (hp:prev.length<=1000000) (hw:∀ q∈prev,q.length<=1000000000):Pure Tryz.prog B 90 [xk prev,encI l] (· = .bool (decide (l∈prev))):=by
 intro p h nx K hK;refine zM zQ rq 10000000 λhf => ?_;rw [F90.go];refine F90.L1 (λm z3 h' nx'=>∃ i:Nat,z3=I i/\prev.length-i=m/\i<=prev.length/\h'=h/\nx'=nx/\l∉prev.take i) (m:=prev.length) (by omega) ⟨0,rfl,rfl,by omega,rfl,rfl,by simp⟩ ?_;rintro m z2 z3 z4 z5 _ _ R ⟨i,rfl,rfl,hi,rfl,rfl,htk⟩ hR;simp (disch:=omega) only [ug,dh,nk,wm,bq,jk,nV,di,fC,zY,zZ,zD,zC,yO,jB,j5,jH,jF,jD,jC,gA,jZ,jY,jX,zX,yH,yJ,zG,decide_true,decide_false,Zap,Zan,jR];by_cases hlt:i<prev.length
 .simp only [show (i:Int)<(prev.length:Int) by omega,decide_true,zD];have hx:prev[i]? = some prev[i]:=List.getElem?_eq_getElem hlt;rw [fF rfl hlt,ldL (getT hx)];refine zi9 (hw _ (Zav hlt)) _ _ _ _ ?_;rintro _ rfl _;by_cases he:prev[i]=l
  .simp only [he,decide_true,zD];refine hK _ ?_ hf;rw [Zac (he ▸ Zav hlt)]
  .simp only [he,decide_false,zC];refine hR _ _ _ _ _ _ _ (by omega) ⟨i+1,rfl,rfl,by omega,rfl,rfl,λq => ?_⟩;rw [Zat,hx] at q;rcases List.mem_append.1 q with q | q
   .exact htk q
   .simp at q;exact he q.symm
 .simp only [show ¬ (i:Int)<(prev.length:Int) by omega,decide_false,zC];rw [F90.k8];rw [Zaq (by omega)] at htk;refine hK _ ?_ hf;rw [Zab htk]
theorem zkq {n i:Nat} {l:List AV} {op:AV->OP} (hn:1<=n) (hi:i<=n):qP 1 (.lst 1 n l) none (some (I (i:Int))) none op=op (.lst 1 i (l.take i)):=by
 show (bif Nat.beq 1 1&&Nat.ble 1 n then (match bnd (some (I (i:Int))) n n with | none=>Out.no 17 | some h=>match bnd none h 0 with | none=>.no 17 | some q=>op (.lst 1 (h-q) ((l.drop (q*1)).take ((h-q)*1)))) else .no 17)=_;rw [Zag hn];have:bnd (some (I (i:Int))) n n=some i:=by
  show (bif Nat.ble i n then some i else none)=_;rw [Zag hi];rfl
 rw [this];show op (.lst 1 (i-0) ((l.drop (0*1)).take ((i-0)*1)))=_;simp
theorem pV {cells:Int} {lines:List (List Int)} (hw:∀ q∈lines,q.length<=1000000):Pure Tryz.prog B 19 [.agg [I cells,xk lines]] (· = I (jV cells lines)):=by
 refine zT λh nx K H0 hK=>zM zQ rq 10000000 λhf => ?_;rw [F19.go];refine H0.box (l:=[I cells,xk lines]) rfl λbx h1 nx1 H1 => ?_;rw [sFx,H1.load (k:=0) (i:=0) rfl rfl];have ret:∀ v:Int,v=jV cells lines->K (I v) h1 nx1=.ok True:=λv hv=>by rw [hv];exact hK _ _ _ _ _ H1 (zV rfl) rfl
 by_cases hc:cells<1\/256<cells
 .have hv:(3:Int)=jV cells lines:=by rw [jV,if_pos hc]
  by_cases c1:cells<1
  .simp only [jk,c1,decide_true,j5,zY,zD];exact ret 3 hv
  .simp only [jk,c1,decide_false,jB];rw [sFx,H1.load (k:=0) (i:=0) rfl rfl];simp only [di,show (256:Int)<cells by omega,decide_true,zZ,zD];exact ret 3 hv
 simp only [jk,show ¬ cells<1 by omega,decide_false,jB];rw [sFx,H1.load (k:=0) (i:=0) rfl rfl];simp only [di,show ¬ (256:Int)<cells by omega,decide_false,zZ,zC];rw [sFx,H1.load (k:=0) (i:=0+1) rfl rfl];simp (disch:=omega) only [ug,dh,nk,wm,bq,jk,nV,di,fC,zY,zZ,zD,zC,yO,jB,j5,jH,jF,jD,jC,gA,jZ,jY,jX,zX,yH,yJ,zG,decide_true,decide_false,Zap,Zan,jR];by_cases hm:128<lines.length
 .simp only [show (128:Int)<(lines.length:Int) by omega,decide_true,zD];exact ret 5 (by rw [jV,if_neg hc,if_pos hm])
 simp only [show ¬ (128:Int)<(lines.length:Int) by omega,decide_false,zC];have hs:jV cells lines=uF cells [] lines:=by rw [jV,if_neg hc,if_neg hm]
 refine F19.L3 (λm z3 h' nx'=>∃ i:Nat,z3=I i/\lines.length-i=m/\i<=lines.length/\h'=h1/\nx'=nx1/\jV cells lines=uF cells (lines.take i) (lines.drop i)) (m:=lines.length) (by omega) ⟨0,rfl,rfl,by omega,rfl,rfl,by simpa using hs⟩ ?_;rintro m z2 z3 z4 z5 z8 z9 z10 z11 z12 z13 h1 nx1 R ⟨i,rfl,rfl,hi,rfl,rfl,he⟩ hR;rw [sFx,H1.load (k:=0) (i:=0+1) rfl rfl];simp (disch:=omega) only [ug,dh,nk,wm,bq,jk,nV,di,fC,zY,zZ,zD,zC,yO,jB,j5,jH,jF,jD,jC,gA,jZ,jY,jX,zX,yH,yJ,zG,decide_true,decide_false,Zap,Zan,jR];by_cases hlt:i<lines.length
 case neg =>
  simp only [show ¬ (i:Int)<(lines.length:Int) by omega,decide_false,zC];rw [F19.k20];exact ret 0 (by rw [he,Zbr (by omega)];rfl)
 simp only [show (i:Int)<(lines.length:Int) by omega,decide_true,zD];obtain ⟨l,hx⟩:∃ l,lines[i]? = some l:=⟨_,List.getElem?_eq_getElem hlt⟩;have hmem:=Zad hx;have hd:lines.drop i=l::lines.drop (i+1):=by
  rw [Zbg hlt];rw [List.getElem?_eq_getElem hlt] at hx;rw [Option.some.inj hx]
 have htake:lines.take (i+1)=lines.take i++[l]:=by rw [Zat,hx];rfl
 rw [sFx,H1.load (k:=0) (i:=0+1) rfl rfl,fF rfl hlt,ldL (getT hx)];simp (disch:=omega) only [ug,dh,nk,wm,bq,jk,nV,di,fC,zY,zZ,zD,zC,yO,jB,j5,jH,jF,jD,jC,gA,jZ,jY,jX,zX,yH,yJ,zG,decide_true,decide_false,Zap,Zan,jR];have hlw:=hw l hmem;have zqb:jP cells (lines.take i) l≠0->jV cells lines=jP cells (lines.take i) l:=λh=>by rw [he,hd,uF,if_pos h]
 by_cases h0:l.length=0
 .simp only [show (l.length:Int)=0 by omega,decide_true,zD];have hl0:l=[]:=Zdb h0;have e12:jP cells (lines.take i) l=12:=by rw [jP,if_pos hl0]
  exact ret 12 (by rw [zqb (by rw [e12];decide),e12])
 simp only [show ¬ (l.length:Int)=0 by omega,decide_false,zC];have hl0:l≠[]:=λq=>h0 (by rw [q];rfl);have hcell:yX cells none l≠0->jV cells lines=yX cells none l:=λh=>by
  have e:jP cells (lines.take i) l=yX cells none l:=by rw [jP,if_neg hl0,if_pos h]
  rw [zqb (by rw [e];exact h),e]
 refine F19.L10 (λm z5 h' nx'=>∃ k:Nat,z5=I k/\l.length-k=m/\k<=l.length/\h'=h1/\nx'=nx1/\yX cells none l=yX cells (pv l k) (l.drop k)) (m:=l.length) (by omega) ⟨0,rfl,rfl,by omega,rfl,rfl,rfl⟩ ?_;rintro m y2 y5 y10 y11 y12 h1 nx1 R2 ⟨k,rfl,rfl,hk,rfl,rfl,hce⟩ hR2;simp (disch:=omega) only [ug,dh,nk,wm,bq,jk,nV,di,fC,zY,zZ,zD,zC,yO,jB,j5,jH,jF,jD,jC,gA,jZ,jY,jX,zX,yH,yJ,zG,decide_true,decide_false,Zap,Zan,jR];by_cases hkt:k<l.length
 case neg =>
  simp only [show ¬ (k:Int)<(l.length:Int) by omega,decide_false,zC];have hz:yX cells none l=0:=by rw [hce,Zbr (by omega)];rfl
  rw [F19.k18,sFx,H1.load (k:=0) (i:=0+1) rfl rfl,zkq (by omega) (by omega)];have ep:AV.lst 1 i ((lines.map encI).take i)=xk (lines.take i):=by
   rw [<- Zfw];simp [xk,Zbp (Nat.le_of_lt hlt)]
  rw [ep];refine zmf (by rw [Zai];omega) (λq hq=>Zax (hw q (Zeb hq)) (by omega)) _ _ _ _ ?_;rintro _ rfl _;by_cases hin:l∈lines.take i
  .simp only [hin,decide_true,zD];have e9:jP cells (lines.take i) l=9:=by rw [jP,if_neg hl0,if_neg (by rw [hz];simp),if_pos hin]
   exact ret 9 (by rw [zqb (by rw [e9];decide),e9])
  .simp only [hin,decide_false,zC];rw [F19.k19,ug (by omega)];have e0:jP cells (lines.take i) l=0:=by rw [jP,if_neg hl0,if_neg (by rw [hz];simp),if_neg hin]
   refine hR _ _ _ _ _ _ _ _ _ _ _ _ _ (by omega) ⟨i+1,rfl,rfl,by omega,rfl,rfl,?_⟩;rw [he,hd,uF,if_neg (by rw [e0];simp),htake]
 simp only [show (k:Int)<(l.length:Int) by omega,decide_true,zD];have hxk:l[k]? = some l[k]:=List.getElem?_eq_getElem hkt;have hdk:l.drop k=l[k]::l.drop (k+1):=Zbg hkt;rw [fF rfl hkt,ldL (aO hxk)];by_cases hbad:l[k]<0\/cells<=l[k]
 .have e10:yX cells none l=10:=by rw [hce,hdk,yX,if_pos hbad]
  have fin:=ret 10 (by rw [hcell (by rw [e10];decide),e10]);by_cases hneg:l[k]<0
  .simp only [jk,hneg,decide_true,j5,zY,zD];exact fin
  .simp only [jk,hneg,decide_false,jB];rw [fF rfl hkt,ldL (aO hxk),sFx,H1.load (k:=0) (i:=0) rfl rfl];simp only [fC,show cells<=l[k] by omega,decide_true,zZ,zD];exact fin
 simp only [jk,show ¬ l[k]<0 by omega,decide_false,jB];rw [fF rfl hkt,ldL (aO hxk),sFx,H1.load (k:=0) (i:=0) rfl rfl];simp only [fC,show ¬ cells<=l[k] by omega,decide_false,zZ,zC];rw [F19.k16];have next:∀ z12,(pv l k).any (λq=>decide (l[k]<=q))=false->R2 (F19.fr (.agg [I cells,xk lines]) (.ptr bx 0) y2 (I i) (encI l) (I ((k:Int)+1)) (.bool false) (.bool false) (.bool true) (.bool false) (.bool true) (.bool false) z12 z13) h1 nx1=.ok True:=λz12 hany=>by
  refine hR2 _ _ _ _ _ _ _ _ (by omega) ⟨k+1,rfl,rfl,by omega,rfl,rfl,?_⟩;rw [hce,hdk,yX,if_neg hbad,hany];simp [p8 hkt]
 by_cases hk0:0<k
 .obtain ⟨k,rfl⟩:∃ j,k=j+1:=⟨k-1,by omega⟩;have hk1:k<l.length:=by omega
  have hxk1:l[k]? = some l[k]:=List.getElem?_eq_getElem hk1;simp only [di,show (0:Int)<((k+1:Nat):Int) by omega,decide_true,yO];rw [fF rfl hkt,ldL (aO hxk),dh (by omega),fF (i:=k) (by omega) hk1,ldL (aO hxk1)];rw [p8 hk1] at next;by_cases hle:l[k+1]<=l[k]
  .simp only [nV,hle,decide_true,zY,zD];have e11:yX cells none l=11:=by rw [hce,hdk,yX,if_neg hbad,p8 hk1,if_pos (by simp [hle])]
   exact ret 11 (by rw [hcell (by rw [e11];decide),e11])
  .simp only [nV,hle,decide_false,zY,zC];rw [F19.k17,ug (by omega)];exact next _ (by simp [hle])
 .obtain rfl:k=0:=by omega
  simp only [di,show ¬ (0:Int)<((0:Nat):Int) by omega,decide_false,jH,zZ,zC];rw [F19.k17,ug (by omega)];exact next _ (by simp [pv])
theorem zdh {P:Program} {f:Nat} {p id:Pa} {h0 h:T Blk} {nx:Pa} {L:List Ob} {k:Nat} {l:List Int} {K:Kw Prop} {Q:AV->Prop} (H:Hp h0 h nx L) (hk:L[k]? = some (.arr id (l.map I))) (hq:∀ B,Pure P B f [encI l] Q) (hpl:∀ v,Q v->Plain v)
  (hK:∀ v,Q v->K v h nx=.ok True):(CS P B).fn f p [.sl id 0 l.length (some l.length) 1] h nx K=.ok True :=
 zgf (.cons (um.frz (H.own _ (Zad hk)) (T.nZ _ id) (Zaf _) (by simp) λv hv=>by obtain ⟨x,_,rfl⟩:=List.mem_map.1 hv;rfl) .nil) (by
  have:=zlv l;simp only [nns,nu.nn this,Bool.and_self]) hq hpl λv hv _=>hK v hv
theorem zqc {h:T Blk} {nx:Pa} {l:List Int} {g:Nat} {p q:Pa} {cap:List AV} {pr:Int->Bool} {K:Kw Prop} (hl:l.length<=1000000) (hcl:∀ x∈l,∀ K:Kw Prop,K (.bool (pr x)) h nx=.ok True->(CS Tryz.prog B).fn g q (I x::cap) h nx K=.ok True)
  (hK:K (.bool (l.any pr)) h nx=.ok True):(CS Tryz.prog B).fn 173 p [encI l,.fn g q cap] h nx K=.ok True:=by
 refine uO (p:=.of 173) (K:=K) (zM zQ rq 9 λhf => ?_) λ_ _ _ _ q=>q;rw [aG.go];refine uO (p:=.of 184) (K:=λv1 h2 n3=>zb .geq .int v1 (I 0) λv4=>K v4 h2 n3) (zM zQ rq 10000000 λhf => ?_) λ_ _ _ _ q=>q;rw [xh.go];simp (disch:=omega) only [ug,dh,nk,wm,bq,jk,nV,di,fC,zY,zZ,zD,zC,yO,jB,j5,jH,jF,jD,jC,gA,jZ,jY,jX,zX,yH,yJ,zG,decide_true,decide_false,Zap,Zan,jR];refine xh.L1 (λm z5 h' nx'=>∃ i:Nat,z5=I i/\l.length-i=m/\i<=l.length/\h'=h/\nx'=nx/\(l.take i).any pr=false) (m:=l.length) (by omega) ⟨0,rfl,rfl,by omega,rfl,rfl,by simp⟩ ?_;rintro m z2 z3 z5 z6 z7 _ _ R ⟨i,rfl,rfl,hi,rfl,rfl,htk⟩ hR;simp (disch:=omega) only [ug,dh,nk,wm,bq,jk,nV,di,fC,zY,zZ,zD,zC,yO,jB,j5,jH,jF,jD,jC,gA,jZ,jY,jX,zX,yH,yJ,zG,decide_true,decide_false,Zap,Zan,jR];by_cases hlt:i<l.length
 .simp only [show (i:Int)<(l.length:Int) by omega,decide_true,zD];have hx:l[i]? = some l[i]:=List.getElem?_eq_getElem hlt;rw [fF rfl hlt,ldL (aO hx),pW];refine hcl _ (Zav hlt) _ ?_;cases he:pr l[i] with
  | true =>
   simp only [zD,fC,show (0:Int)<=(i:Int) by omega,decide_true];rw [List.any_eq_true.2 ⟨_,Zav hlt,he⟩] at hK;exact hK
  | false =>
   simp only [zC];refine hR _ _ _ _ _ _ _ _ (by omega) ⟨i+1,rfl,rfl,by omega,rfl,rfl,?_⟩;rw [Zat,hx,List.any_append,htk];simp [he]
 .simp only [show ¬ (i:Int)<(l.length:Int) by omega,decide_false,zC];rw [xh.k8];rw [Zaq (by omega)] at htk;rw [htk] at hK;simp only [fC,show ¬ (0:Int) <= -1 by omega,decide_false];exact hK
theorem zsk {a b:Int} {l:List Int} (hl:l.length<=1000000):Pure Tryz.prog B 87 [I a,I b,encI l] (· = I (if l.any (λx=>decide (x<a)||decide (b<x)) then 3 else 0)):=by
 refine zT λh nx K H0 hK=>zM zQ rq 1000 λhf => ?_;rw [F87.go];refine H0.box (l:=[I a]) rfl λx1 h1 nx1 H1 => ?_;refine H1.box (l:=[I b]) rfl λx2 h2 nx2 H2 => ?_;refine zqc (pr:=λx=>decide (x<a)||decide (b<x)) hl (λx _ K hK => ?_) ?_
 .refine uO (p:=.of 174) (K:=K) (zM zQ rq 9 λhf => ?_) λ_ _ _ _ q=>q;show zR tbl 9 _ (Pa.of 174) [I x,.ptr x1 0,.ptr x2 0] _ _ _=_;rw [aF.go,H2.load (k:=1) (i:=0) rfl rfl];by_cases c:x<a
  .simp only [jk,c,decide_true,j5,zY];simpa [c] using hK
  .simp only [jk,c,decide_false,jB];rw [H2.load (k:=0) (i:=0) rfl rfl];simp only [di,zZ];simpa [c] using hK
 .refine pS _ _ _ _ _ _ ?_;rintro _ rfl _;exact hK _ _ _ _ _ H2 (zV rfl) rfl
theorem zsl {cells:Int} {lines:List (List Int)} {i:Nat} {l:List Int} (hi:lines[i]? = some l) (hn:lines.length<=1000000) (hw:∀ q∈lines,q.length<=1000000):Pure Tryz.prog B 89 [.agg [I cells,xk lines],I i] (· = I (jP cells (lines.take i) l)):=by
 refine zT λh nx K H0 hK=>zM zQ rq 10000000 λhf => ?_;have hlt:i<lines.length:=(List.getElem?_eq_some_iff.1 hi).1;have hlw:=hw l (Zad hi);rw [F89.go];refine H0.box (l:=[I cells,xk lines]) rfl λbx h1 nx1 H1 => ?_;rw [sFx,H1.load (k:=0) (i:=0+1) rfl rfl,fF rfl hlt,ldL (getT hi)];refine H1.alloc λx h2 nx2 H2 => ?_;refine H2.store (k:=0) rfl (by decide) rfl λh3 H3 => ?_;rw [H3.load (k:=0) (i:=0) rfl rfl];simp (disch:=omega) only [ug,dh,nk,wm,bq,jk,nV,di,fC,zY,zZ,zD,zC,yO,jB,j5,jH,jF,jD,jC,gA,jZ,jY,jX,zX,yH,yJ,zG,decide_true,decide_false,Zap,Zan,jR];have ret:∀ (v:Int) h' nx' L,v=jP cells (lines.take i) l->Hp h h' nx' L->K (I v) h' nx'=.ok True:=λv h' nx' L hv H'=>by rw [hv];exact hK _ _ _ _ _ H' (zV rfl) rfl
 by_cases h0:l.length=0
 .simp only [show (l.length:Int)=0 by omega,decide_true,zD];have hl0:l=[]:=Zdb h0;exact ret 12 _ _ _ (by rw [jP,if_pos hl0]) H3
 simp only [show ¬ (l.length:Int)=0 by omega,decide_false,zC];have hl0:l≠[]:=λq=>h0 (by rw [q];rfl);have hcell:yX cells none l≠0->yX cells none l=jP cells (lines.take i) l:=λh=>by rw [jP,if_neg hl0,if_pos h]
 rw [H3.load (k:=0) (i:=0) rfl rfl];simp (disch:=omega) only [ug,dh,nk,wm,bq,jk,nV,di,fC,zY,zZ,zD,zC,yO,jB,j5,jH,jF,jD,jC,gA,jZ,jY,jX,zX,yH,yJ,zG,decide_true,decide_false,Zap,Zan,jR];refine F89.L2 (λm z11 h' nx'=>∃ k:Nat,z11=I k/\l.length-k=m/\k<=l.length/\Hp h h' nx' [.arr x [encI l],.arr bx [I cells,xk lines]]/\yX cells none l=yX cells (pv l k) (l.drop k)) (m:=l.length) (by omega) ⟨0,rfl,rfl,by omega,H3,rfl⟩ ?_;rintro m z3 z5 z6 z7 z11 z12 z13 h1 nx1 R ⟨k,rfl,rfl,hk,H1,hce⟩ hR;simp (disch:=omega) only [ug,dh,nk,wm,bq,jk,nV,di,fC,zY,zZ,zD,zC,yO,jB,j5,jH,jF,jD,jC,gA,jZ,jY,jX,zX,yH,yJ,zG,decide_true,decide_false,Zap,Zan,jR];by_cases hkt:k<l.length
 case neg =>
  simp only [show ¬ (k:Int)<(l.length:Int) by omega,decide_false,zC];have hz:yX cells none l=0:=by rw [hce,Zbr (by omega)];rfl
  rw [F89.k9,sFx,H1.load (k:=1) (i:=0+1) rfl rfl,zkq (by omega) (by omega)];have ep:AV.lst 1 i ((lines.map encI).take i)=xk (lines.take i):=by
   rw [<- Zfw];simp [xk,Zbp (Nat.le_of_lt hlt)]
  rw [ep];refine zg3 H1 (k:=0) rfl (by rw [Zai];omega) (λq hq=>hw q (Zeb hq)) ?_;refine pS _ _ _ _ _ _ ?_;rintro _ rfl _;refine ret _ _ _ _ ?_ H1;have e9:jP cells (lines.take i) l=if l∈lines.take i then 9 else 0:=by rw [jP,if_neg hl0,if_neg (by rw [hz];simp)]
  rw [e9];by_cases hin:l∈lines.take i <;> simp [hin]
 simp only [show (k:Int)<(l.length:Int) by omega,decide_true,zD];have hxk:l[k]? = some l[k]:=List.getElem?_eq_getElem hkt;have hdk:l.drop k=l[k]::l.drop (k+1):=Zbg hkt;rw [fF rfl hkt,ldL (aO hxk)]
 have tail:∀ (b1 b2:Bool) (z:AV) (z':AV) (Z:AV->T Blk->Pa->Out Prop),b1=(decide (l[k]<0\/cells<=l[k]))->b2=(pv l k).any (λq=>decide (l[k]<=q)) ->
   (∀ (e:Int) h' nx',e=(if l[k]<0\/cells<=l[k] then 10 else if (pv l k).any (λq=>decide (l[k]<=q)) then 11 else 0)->Hp h h' nx' [.arr x [encI l],.arr bx [I cells,xk lines]]->Z (I e) h' nx'=.ok True) ->
   (CS Tryz.prog B).fn 88 (.of 88) [.bool b2,I 11] h1 nx1 (λv22 h23 n24=>yV 1 2 [(I 0)] [(0,1,I (if b1 then 10 else 0)),(1,1,v22)] h23 n24 λv25 h26 n27=>(CS Tryz.prog B).fn 86 (.of 86) [v25] h26 n27 Z)=.ok True:=by
  intro b1 b2 z z' Z e1 e2 hZ;refine pS _ _ _ _ _ _ ?_;rintro _ rfl _;refine H1.dz (l:=[I (if b1 then 10 else 0),I (if b2 then 11 else 0)]) rfl λid h4 nx4 H4 => ?_;refine zdh (l:=[if b1 then 10 else 0,if b2 then 11 else 0]) H4 (k:=0) rfl (λB=>zg2 (by simp)) (λv hv=>by rw [hv];exact .int _ _) ?_;rintro _ rfl;refine hZ _ _ _ ?_ H4.drop;subst e1 e2;by_cases c1:l[k]<0\/cells<=l[k]
  .simp [c1,kZ]
  .cases c2:(pv l k).any (λq=>decide (l[k]<=q)) <;> simp [c1,kZ]
 have fin:∀ (e:Int) h' nx',e=(if l[k]<0\/cells<=l[k] then 10 else if (pv l k).any (λq=>decide (l[k]<=q)) then 11 else 0)->Hp h h' nx' [.arr x [encI l],.arr bx [I cells,xk lines]] ->
   (zb .neq .int (I e) (I 0) λv31=>yP v31 (K (I e) h' nx') (R (F89.fr (.agg [I cells,xk lines]) (I i) (.ptr bx 0) z3 (.ptr x 0) (I k) (I l[k]) (I e) (.bool false) (encI l) (I l.length) (I ((k:Int)+1)) (.bool true) v31) h' nx'))=.ok True:=by
  intro e h' nx' he H';have hstep:yX cells none l=if e≠0 then e else yX cells (some l[k]) (l.drop (k+1)):=by
   rw [hce,hdk,yX,he];by_cases c1:l[k]<0\/cells<=l[k]
   .simp [c1]
   .cases c2:(pv l k).any (λq=>decide (l[k]<=q)) <;> simp [c1]
  simp (disch:=omega) only [ug,dh,nk,wm,bq,jk,nV,di,fC,zY,zZ,zD,zC,yO,jB,j5,jH,jF,jD,jC,gA,jZ,jY,jX,zX,yH,yJ,zG,decide_true,decide_false,Zap,Zan,jR];by_cases c:e=0
  .simp only [c,decide_true,Zap,zC];refine hR _ _ _ _ _ _ _ _ _ _ (by omega) ⟨k+1,rfl,rfl,by omega,H',?_⟩;rw [hstep,if_neg (by simp [c]),p8 hkt]
  .simp only [c,decide_false,Zan,zD];rw [if_pos c] at hstep;exact ret _ _ _ _ (by rw [<- hcell (by rw [hstep];exact c),hstep]) H'
 have mid:∀ b1:Bool,b1=decide (l[k]<0\/cells<=l[k]) ->
   (CS Tryz.prog B).fn 88 (.of 88) [.bool b1,I 10] h1 nx1 (λv10 h11 n12 =>
    sG (.bool (decide (0<(k:Int)))) true (λk=>zH (.ptr x 0) h11 k) λv14=>sG (.bool (decide (0<(k:Int)))) true (λq=>q (I (k:Int))) λv15=>sG (.bool (decide (0<(k:Int)))) true (λk=>zb .sub .int v15 (I 1) k) λv16=>sG (.bool (decide (0<(k:Int)))) true (λk=>zK 1 v14 v16 k) λv17=>sG (.bool (decide (0<(k:Int)))) true (λk=>zH v17 h11 k) λv18 =>
    sG (.bool (decide (0<(k:Int)))) true (λq=>q (I l[k])) λv19=>sG (.bool (decide (0<(k:Int)))) true (λk=>zb .geq .int v18 v19 k) λv20=>yZ (.bool (decide (0<(k:Int)))) v20 (.bool false) λv21 =>
    (CS Tryz.prog B).fn 88 (.of 88) [v21,I 11] h11 n12 λv22 h23 n24=>yV 1 2 [(I 0)] [(0,1,v10),(1,1,v22)] h23 n24 λv25 h26 n27=>(CS Tryz.prog B).fn 86 (.of 86) [v25] h26 n27 λv28 h29 n30 =>
    zb .neq .int v28 (I 0) λv31=>yP v31 (K v28 h29 n30) (R (F89.fr (.agg [I cells,xk lines]) (I i) (.ptr bx 0) z3 (.ptr x 0) (I k) (I l[k]) v28 (.bool false) (encI l) (I l.length) (I ((k:Int)+1)) (.bool true) v31) h29 n30))=.ok True:=by
  intro b1 e1;refine pS _ _ _ _ _ _ ?_;rintro _ rfl _;by_cases ck:0<k
  .obtain ⟨k,rfl⟩:∃ j,k=j+1:=⟨k-1,by omega⟩;have hk1:k<l.length:=by omega
   have hxk1:l[k]? = some l[k]:=List.getElem?_eq_getElem hk1;simp only [show (0:Int)<((k+1:Nat):Int) by omega,decide_true,yO,zY];rw [H1.load (k:=0) (i:=0) rfl rfl,dh (by omega),fF (i:=k) (by omega) hk1,ldL (aO hxk1)];simp only [fC];exact tail _ _ .u .u _ e1 (by rw [p8 hk1];rfl) fin
  .obtain rfl:k=0:=by omega
   simp only [show ¬ (0:Int)<((0:Nat):Int) by omega,decide_false,jH,zZ];exact tail _ _ .u .u _ e1 rfl fin
 by_cases c:l[k]<0
 .simp only [jk,c,decide_true,j5,zY];exact mid true (by simp [c])
 .simp only [jk,c,decide_false,jB,sFx];rw [H1.load (k:=1) (i:=0) rfl rfl];simp only [fC,zZ];exact mid _ (by simp [c])
theorem zuv {cells:Int} {lines:List (List Int)} (hw:∀ q∈lines,q.length<=1000000):Pure Tryz.prog B 18 [.agg [I cells,xk lines]] (· = I (jV cells lines)):=by
 refine zT λh nx K H0 hK=>zM zQ rq 10000000 λhf => ?_;rw [F18.go];refine H0.box (l:=[I cells,xk lines]) rfl λbx h1 nx1 H1 => ?_;rw [sFx,H1.load (k:=0) (i:=0) rfl rfl,sFx,H1.load (k:=0) (i:=0+1) rfl rfl];simp only [zX,di];refine H1.dz (l:=[I cells]) rfl λid h2 nx2 H2 => ?_;simp only [zG,zX];rw [H2.load (k:=1) (i:=0+1) rfl rfl];simp only [zG,sFx];refine zgf (args':=[I 1,I 256,encI [cells]]) (.cons (.int _ _) (.cons (.int _ _) (.cons (um.frz (H2.own (.arr id [I cells]) (by simp)) (T.nZ _ id) (Zaf _) rfl (λv hv=>by simp at hv;subst hv;rfl)) .nil))) rfl (λB=>zsk (l:=[cells]) (by simp)) (λv hv=>by rw [hv];exact .int _ _) ?_;rintro _ rfl _;rw [H2.load (k:=1) (i:=0+1) rfl rfl];simp only [zG,zX];refine pS _ _ _ _ _ _ ?_;rintro _ rfl _;refine H2.dz (l:=[I (if [cells].any (λx=>decide (x<1)||decide (256<x)) then 3 else 0),I (if decide (128<(lines.length:Int)) then 5 else 0)]) rfl λid3 h3 nx3 H3 => ?_;refine zdh (l:=[if [cells].any (λx=>decide (x<1)||decide (256<x)) then 3 else 0,if decide (128<(lines.length:Int)) then 5 else 0]) H3 (k:=0) rfl (λB=>zg2 (by simp)) (λv hv=>by rw [hv];exact .int _ _) ?_;rintro _ rfl;have ret:∀ (v:Int) h' nx' L,v=jV cells lines->Hp h h' nx' L->K (I v) h' nx'=.ok True:=λv h' nx' L hv H'=>by rw [hv];exact hK _ _ _ _ _ H' (zV rfl) rfl
 have ef:kZ [if [cells].any (λx=>decide (x<1)||decide (256<x)) then 3 else 0,if decide (128<(lines.length:Int)) then 5 else 0]=if cells<1\/256<cells then 3 else if 128<lines.length then 5 else 0:=by
  by_cases c:cells<1\/256<cells
  .simp [kZ,c]
  .by_cases c2:128<lines.length
   .have:(128:Int)<(lines.length:Int):=by omega
    simp [kZ,c,c2,this]
   .have:¬ (128:Int)<(lines.length:Int):=by omega
    simp [kZ,c,c2,this]
 rw [ef];simp only [bq];by_cases hc:cells<1\/256<cells
 .simp only [hc,if_true];simp only [show ¬ (3:Int)=0 by omega,decide_false,Zan,zD];exact ret 3 _ _ _ (by rw [jV,if_pos hc]) H3
 simp only [hc,if_false];by_cases hm:128<lines.length
 .simp only [hm,if_true];simp only [show ¬ (5:Int)=0 by omega,decide_false,Zan,zD];exact ret 5 _ _ _ (by rw [jV,if_neg hc,if_pos hm]) H3
 simp only [hm,if_false,decide_true,Zap,zC];rw [H3.load (k:=2) (i:=0+1) rfl rfl];simp only [zX];have hs:jV cells lines=uF cells [] lines:=by rw [jV,if_neg hc,if_neg hm]
 refine F18.L2 (λm z8 h' nx'=>∃ i:Nat,z8=I i/\lines.length-i=m/\i<=lines.length/\Hp h h' nx' [.arr bx [I cells,xk lines]]/\jV cells lines=uF cells (lines.take i) (lines.drop i)) (m:=lines.length) (by omega) ⟨0,rfl,rfl,by omega,H3.drop.drop,by simpa using hs⟩ ?_;rintro m z2 z4 z5 z8 z9 z10 h4 nx4 R ⟨i,rfl,rfl,hi,H4,he⟩ hR;simp (disch:=omega) only [ug,dh,nk,wm,bq,jk,nV,di,fC,zY,zZ,zD,zC,yO,jB,j5,jH,jF,jD,jC,gA,jZ,jY,jX,zX,yH,yJ,zG,decide_true,decide_false,Zap,Zan,jR];by_cases hlt:i<lines.length
 case neg =>
  simp only [show ¬ (i:Int)<(lines.length:Int) by omega,decide_false,zC];rw [F18.k9];exact ret 0 _ _ _ (by rw [he,Zbr (by omega)];rfl) H4
 simp only [show (i:Int)<(lines.length:Int) by omega,decide_true,zD];obtain ⟨l,hx⟩:∃ l,lines[i]? = some l:=⟨_,List.getElem?_eq_getElem hlt⟩;have hd:lines.drop i=l::lines.drop (i+1):=by
  rw [Zbg hlt];rw [List.getElem?_eq_getElem hlt] at hx;rw [Option.some.inj hx]
 have htake:lines.take (i+1)=lines.take i++[l]:=by rw [Zat,hx];rfl
 rw [H4.zm (k:=0) (n:=2) rfl rfl];refine zsl hx (by omega) hw _ _ _ _ ?_;rintro _ rfl _;simp only [bq];by_cases c:jP cells (lines.take i) l=0
 .simp only [c,decide_true,Zap,zC];refine hR _ _ _ _ _ _ _ _ _ (by omega) ⟨i+1,rfl,rfl,by omega,H4,?_⟩;rw [he,hd,uF,if_neg (by rw [c];simp),htake]
 .simp only [c,decide_false,Zan,zD];exact ret _ _ _ _ (by rw [he,hd,uF,if_pos c]) H4
end Go.Ev
namespace Go.Ev
def AscL (cells:Nat) (l:List Int):Prop:=l≠[]/\l.Pairwise (· < ·)/\∀ c∈l,0<=c/\c<(cells:Int)
end Go.Ev
namespace Go.Ev
open Go Go.Proofs
variable {B:Nat}
theorem cells_ok {cells:Int}:∀ {l:List Int} {p:Option Int},yX cells p l=0->(∀ c∈l,0<=c/\c<cells)/\l.Pairwise (· < ·)/\∀ q,p=some q->∀ c∈l,q<c
 | [],_,_=>⟨by simp,.nil,by simp⟩
 | c::l,p,h=>by
  rw [yX] at h;by_cases c1:c<0\/cells<=c
  .rw [if_pos c1] at h;cases h
  rw [if_neg c1] at h;cases c2:p.any (λq=>decide (c<=q)) with
  | true=>rw [c2,if_pos rfl] at h;cases h
  | false =>
   rw [c2,if_neg (by simp)] at h;obtain ⟨h1,h2,h3⟩:=cells_ok h;have h4:=h3 c rfl;refine ⟨λx hx => ?_,List.pairwise_cons.2 ⟨h4,h2⟩,λq hq x hx => ?_⟩
   .rcases List.mem_cons.1 hx with rfl | hx
    .omega
    .exact h1 x hx
   .subst hq;simp at c2;rcases List.mem_cons.1 hx with rfl | hx
    .exact c2
    .have:=h4 x hx;omega
theorem zg4 {cells:Int}:∀ {ls prev:List (List Int)},uF cells prev ls=0->∀ l∈ls,l≠[]/\yX cells none l=0
 | [],_,_,l,h=>by simp at h
 | a::ls,prev,h,l,hl=>by
  rw [uF] at h;by_cases c:jP cells prev a≠0
  .rw [if_pos c] at h;exact absurd h c
  rw [if_neg c] at h;rcases List.mem_cons.1 hl with rfl | hl
  .have c:jP cells prev l=0:=by simpa using c
   rw [jP] at c;by_cases c0:l=[]
   .rw [if_pos c0] at c;cases c
   rw [if_neg c0] at c;refine ⟨c0,?_⟩;by_cases c1:yX cells none l≠0
   .rw [if_pos c1] at c;exact c
   .simpa using c1
  .exact zg4 h l hl
theorem zqd {cells:Int} {lines:List (List Int)} (h:jV cells lines=0):∃ n:Nat,cells=n/\1<=n/\n<=256/\lines.length<=128/\∀ l∈lines,AscL n l:=by
 rw [jV] at h;by_cases c1:cells<1\/256<cells
 .rw [if_pos c1] at h;cases h
 rw [if_neg c1] at h;by_cases c2:128<lines.length
 .rw [if_pos c2] at h;cases h
 rw [if_neg c2] at h;refine ⟨cells.toNat,by omega,by omega,by omega,by omega,λl hl => ?_⟩;obtain ⟨h1,h2⟩:=zg4 h l hl;obtain ⟨h3,h4,_⟩:=cells_ok h2;exact ⟨h1,h4,λc hc=>by have:=h3 c hc;omega⟩
end Go.Ev
namespace Go.Ev
abbrev srt (l:List Int):List Int:=l.mergeSort λx y=>decide (x<=y)
theorem zg5 (l:List Int):(srt l).Perm l:=List.mergeSort_perm l _
structure Ins (l out:List Int) (i k:Nat):Prop where
 perm:out.Perm l
 ex:∃ (A:List Int) (x:Int) (B R:List Int),out=A++x::(B++R)/\A.length=k/\A.length+B.length=i/\(A++B).Pairwise (· <= ·)/\∀ b∈B,x<b
theorem Ins.start {l out:List Int} {i:Nat} (hp:out.Perm l) (hi:i<out.length) (hs:(out.take i).Pairwise (· <= ·)):Ins l out i i :=
 ⟨hp,out.take i,out[i],[],out.drop (i+1),by simp,by simp;omega,by simp;omega,by simpa using hs,by simp⟩
theorem Ins.swap {l out:List Int} {i k:Nat} (H:Ins l out i (k+1)) {a x:Int} (ha:out[k]? = some a) (hx:out[k+1]? = some x) (hlt:x<a):Ins l ((out.set (k+1) a).set k x) i k:=by
 obtain ⟨hp,A,x',B,R,rfl,hA,hi,hs,hb⟩:=H;obtain ⟨A,a',rfl⟩:∃ A' a',A=A'++[a']:=⟨A.dropLast,A.getLast (by intro q;rw [q] at hA;simp at hA),(List.dropLast_concat_getLast _).symm⟩;have hA':A.length=k:=by simpa using hA
 have e1:a'=a:=by
  rw [Zbo,List.getElem?_append_right (by omega),hA',Zcj] at ha;simpa using ha
 have e2:x'=x:=by
  rw [List.getElem?_append_right (by simp;omega)] at hx;simp [hA'] at hx;exact hx
 subst e1 e2;have e3:((A++[a']++x'::(B++R)).set (k+1) a').set k x'=A++x'::((a'::B)++R):=by
  have h1:(A++[a']++x'::(B++R)).set (k+1) a'=A++a'::a'::(B++R):=by
   rw [Zbo,Zeq _ _ (by omega),hA',show k+1-k=1 by omega];rfl
  rw [h1,Zeq _ _ (by omega),hA',Zcj];rfl
 rw [e3];refine ⟨List.Perm.trans ?_ hp,A,x',a'::B,R,rfl,hA',by simp at hi ⊢;omega,by simpa [Zbo] using hs,?_⟩
 .rw [Zbo];refine List.Perm.append_left A ?_;exact List.Perm.swap _ _ _
 .intro b hb';rcases List.mem_cons.1 hb' with rfl | q
  .exact hlt
  .exact hb b q
theorem Ins.done {l out:List Int} {i k:Nat} (H:Ins l out i k) (h:k=0\/∃ j a x,k=j+1/\out[j]? = some a/\out[k]? = some x/\¬ x<a):out.Perm l/\(out.take (i+1)).Pairwise (· <= ·):=by
 obtain ⟨hp,A,x,B,R,rfl,hA,hi,hs,hb⟩:=H;refine ⟨hp,?_⟩;have e:(A++x::(B++R)).take (i+1)=A++x::B:=by
  rw [show A++x::(B++R)=(A++x::B)++R by simp];exact Zeg (by simp;omega)
 rw [e];have hs':=List.pairwise_append.1 hs;refine List.pairwise_append.2 ⟨hs'.1,List.pairwise_cons.2 ⟨λb hb'=>by have:=hb b hb';omega,hs'.2.1⟩,?_⟩;have key:∀ a∈A,a<=x:=by
  rcases h with rfl | ⟨j,a0,x0,rfl,h1,h2,h3⟩
  .obtain rfl:A=[]:=Zdb hA;simp
  .obtain ⟨A,a',rfl⟩:∃ A' a',A=A'++[a']:=⟨A.dropLast,A.getLast (by intro q;rw [q] at hA;simp at hA),(List.dropLast_concat_getLast _).symm⟩;have hA':A.length=j:=by simpa using hA
   have e1:a'=a0:=by
    rw [Zbo,List.getElem?_append_right (by omega),hA',Zcj] at h1;simpa using h1
   have e2:x=x0:=by
    rw [List.getElem?_append_right (by simp;omega)] at h2;simp [hA'] at h2;exact h2
   subst e1 e2;intro a ha;rcases List.mem_append.1 ha with q | q
   .have:=(List.pairwise_append.1 hs'.1).2.2 a q a' (by simp);omega
   .simp at q;omega
 intro a ha b hb';rcases List.mem_cons.1 hb' with rfl | q
 .exact key a ha
 .exact hs'.2.2 a ha b q
def incr (d:List Int) (c:Int):List Int:=d.set c.toNat (d.getD c.toNat 0+1)
@[simp] theorem zuw (d:List Int) (c:Int):(incr d c).length=d.length:=by simp [incr]
def Bd (d:List Int) (M:Nat):Prop:=∀ v∈d,0<=v/\v<=(M:Int)
theorem Bd.incr {d:List Int} {M:Nat} (h:Bd d M) {c:Int} (hc:c.toNat<d.length):Bd (incr d c) (M+1):=by
 intro v hv;rcases Zbs hv with q | rfl
 .have:=h v q;omega
 .rw [Zaa,List.getElem?_eq_getElem hc];have:=h _ (Zav hc);simp only [Option.getD_some];omega
theorem Bd.mono {d:List Int} {M N:Nat} (h:Bd d M) (hm:M<=N):Bd d N:=λv hv=>by have:=h v hv;omega
theorem Bd.line {W:Nat}:∀ {l d:List Int} {M:Nat},Bd d M->(∀ c∈l,c.toNat<d.length)->l.length<=W->Bd (l.foldl Ev.incr d) (M+W)
 | [],d,M,h,_,_=>h.mono (by omega)
 | c::l,d,M,h,hc,hl=>by
  rw [Zee];simp only [Zbb] at hl;have:=Bd.line (W:=W-1) (l:=l) (h.incr (hc c (by simp))) (λx hx=>by simpa using hc x (by simp [hx])) (by omega);exact this.mono (by omega)
theorem Bd.srt {d:List Int} {M:Nat} (h:Bd d M):Bd (Ev.srt d) M:=λv hv=>h v ((zg5 d).mem_iff.1 hv)
@[simp] theorem zwm (d:List Int):(Ev.srt d).length=d.length:=(zg5 d).length_eq
end Go.Ev
namespace Go.Ev
open Go Go.Proofs
variable {B:Nat}
set_option maxRecDepth 100000
theorem Hp.zbv {h0 h:T Blk} {nx:Pa} {L:List Ob} (H:Hp h0 h nx L) (e:Nat):Hp h0 h nx (.gro none e 0 []::L) :=
  ⟨H.keep,fun x hx=>by rcases List.mem_cons.1 hx with rfl | q;· exact ⟨rfl,rfl⟩
                       . exact H.own x q,λn hn=>H.off n (by simpa [Ob.names] using hn),by have:=H.nd;simpa [Ob.names] using this,H.fr⟩
theorem Sg.q1 {q:Rat} (h:Sg q):qy 1 q:=(h.dn (Zaf 1)).nm (Zaf _) (Zaf _)
theorem vR {Q:List Rat} {P:Rat->Prop} (h:∀ j,P (at' Q j)):∀ x∈Q,P x:=λx hx=>by
 obtain ⟨j,_,rfl⟩:=at_mem hx;exact h j
theorem rA.fix {c:List AV} {q:List Rat} (h:rA c q):∀ v∈c,nu v=true:=λv hv=>by
 obtain ⟨m,hm⟩:=List.mem_iff_getElem?.1 hv;have hl:=(List.getElem?_eq_some_iff.1 hm).1;rw [h.1] at hl;obtain ⟨s,w,s',w',e,h1,h2⟩:=h.2 (m / 4) _ (uA (by omega));have h3:((c.drop (m / 4*4)).take 4)[m%4]? = some v:=by
  rw [List.getElem?_take_of_lt (Zdk _ (by decide)),List.getElem?_drop,show m / 4*4+m%4=m by omega];exact hm
 rw [e] at h3;exact h1.aZ h2 v (Zad h3)
theorem zqe {n:Nat} {lines:List (List Int)} (hr:∀ l∈lines,∀ c∈l,0<=c/\c<(n:Int)) {i:Nat} (hi:i<lines.length):∀ c∈lines.getD i [],0<=c/\c<(n:Int):=hr _ (yG hi)
end Go.Ev
namespace Go.Ev
open Go Go.Proofs
theorem Sv.nodup {n:Nat} {O Q:List (List Rat)} {ps:List Nat} (hS:Sv n O Q ps):ps.Nodup:=by
 rw [List.nodup_iff_pairwise_ne,Zff];intro a b ha hb hab e;have ha':a<Q.length:=by have:=hS.len;omega
 have hb':b<Q.length:=by have:=hS.len;omega
 have h1:=hS.one a a ha' ha';have h2:=hS.one a b ha' hb';have e1:ps.getD a 0=ps[a]:=by rw [Zaa,List.getElem?_eq_getElem ha];rfl
 have e2:ps.getD b 0=ps[b]:=by rw [Zaa,List.getElem?_eq_getElem hb];rfl
 rw [if_pos rfl,e1] at h1;rw [if_neg (by omega),e2,<- e,h1] at h2;exact absurd h2 (by decide)
theorem zeu {R Bd r:Nat} (hr:r<=R) (hB:(R+1) ^ R<(Bd+1)*(Bd+1)) (a:Nat->Nat->Int) (ha:∀ i j,a i j = -1\/a i j=0\/a i j=1):∃ x:Nat->Int,(∃ j,j<=r/\x j≠0)/\(∀ j,(x j).natAbs<=Bd)/\∀ i,i<r->sI (r+1) (λj=>a i j*x j)=0:=by
 obtain ⟨x,hx,⟨j,hj⟩,hs,hk⟩:=hada (n:=r+1) (B:=((r+1:Nat):Int)) (by omega) ((List.range r).map λi=>(List.range (r+1)).map (a i)) (λb hb=>by
  obtain ⟨i,_,rfl⟩:=List.mem_map.1 hb;refine ⟨by simp,?_⟩;have:=zp9 ((List.range (r+1)).map (a i)) λy hy=>by
   obtain ⟨j,_,rfl⟩:=List.mem_map.1 hy;exact ha i j
  simpa using this) (by simp)
 have hxe:x=(List.range (r+1)).map λj=>x.getD j 0:=by
  refine Zeu (by simp [hx]) λi h1 h2 => ?_;simp [Zaa,h1]
 refine ⟨λj=>x.getD j 0,⟨j,?_,hj⟩,λj => ?_,λi hi => ?_⟩
 .refine Classical.byContradiction λc=>hj ?_;rw [Zaa,List.getElem?_eq_none (by omega)];rfl
 .have h1:=zeq x j;rw [Zah,Zdx] at hs;have h2:(r+1) ^ r<=(R+1) ^ R:=Zax (Nat.pow_le_pow_left (show r+1<=R+1 by omega) r) (Zcy (by omega) hr);have h3:(((r+1:Nat):Int)) ^ r=(((r+1) ^ r:Nat):Int):=by simp
  rw [h3] at hs;show (x.getD j 0).natAbs<=Bd;refine Zfx λc => ?_;have h5:=Zcb (show Bd+1<=(x.getD j 0).natAbs from c) (show Bd+1<=(x.getD j 0).natAbs from c);have h6:=Zgm (a:=x.getD j 0);omega
 .have:=hk _ (List.mem_map.2 ⟨i,List.mem_range.2 hi,rfl⟩);rw [hxe,mN] at this;exact this
theorem zkr {F:Nat->Int} {Bd:Nat}:∀ {k:Nat},(∀ j,j<k->(F j).natAbs<=Bd)->(sI k F).natAbs<=k*Bd
 | 0,_=>by simp [sI]
 | k+1,h=>by
  have h1:=zkr (k:=k) λj hj=>h j (by omega);have h2:=h k (by omega);rw [sI,Zbd,Zdh];have:=Zdy (sI k F) (F k);omega
theorem zdi (q:Rat) (x:Int):(sgI q*x).natAbs<=x.natAbs:=by
 rcases zet q with e | e | e <;> rw [e] <;> omega
structure Tv (n:Nat) (O P:List (List Rat)) (ps:List Nat):Prop where
 len:ps.length=P.length
 olen:O.length=P.length
 row:∀ q∈P,q.length=n
 oG:∀ o∈O,o.length=n
 osg:∀ o∈O,∀ j,Sg (at' o j)
 rng:∀ p∈ps,p<n
 one:∀ a,a<P.length->at' (P.getD a []) (ps.getD a 0)=1
 low:∀ a b,a<P.length->b<a->at' (P.getD a []) (ps.getD b 0)=0
 ker:∀ a,a<P.length->∀ f:List Rat,f.length=n->(∀ b,b<=a->dot (O.getD b []) f=0)->dot (P.getD a []) f=0
theorem Tv.nil (n:Nat):Tv n [] [] []:=⟨rfl,rfl,by simp,by simp,by simp,by simp,λa h=>by simp at h,λa b h=>by simp at h,λa h=>by simp at h⟩
abbrev aP (k:Nat) (ps:List Nat) (j i:Nat):Nat:=if i<k then ps.getD i 0 else j
theorem Tv.colR {n k j:Nat} {O P:List (List Rat)} {ps:List Nat} (h:Tv n O P ps) (hk:k<=P.length) (hj:j<n) (i:Nat):aP k ps j i<n:=by
 unfold aP;by_cases q:i<k
 .rw [if_pos q];exact h.rng _ (yG (by rw [h.len];omega))
 .rw [if_neg q];exact hj
theorem Tv.pl {n k j:Nat} {O P:List (List Rat)} {ps:List Nat} (h:Tv n O P ps) (hk:k<=P.length) (hj:j<n) (x:Nat->Rat) {v:List Rat} (hv:v.length=n):dot v (plF n (aP k ps j) x (k+1))=sR k (λb=>at' v (ps.getD b 0)*x b)+at' v j*x k:=by
 rw [xZ hv _ λi _=>h.colR hk hj i,sR]
 congr 1
 .exact jJ λb hb=>by rw [aP,if_pos hb]
 .rw [aP,if_neg (Zdg _)]
theorem kP {k i:Nat} {F x:Nat->Rat} (h:∀ b,b<k->F b=(if i=b then 1 else 0)*x b):sR k F=if i<k then x i else 0:=by
 rw [jJ h,zes]
theorem wD {k:Nat} {F:Nat->Rat} (h:∀ b,b<k->F b=0):sR k F=0:=by
 rw [kP (i:=k) (x:=F) λb hb=>by rw [h b hb,if_neg (by omega),Zbj],if_neg (Zdg _)]
theorem Tv.sol {n k j R Bd:Nat} {O P:List (List Rat)} {ps:List Nat} (h:Tv n O P ps) (hk:k<=P.length) (hj:j<n) (hR:k<=R) (hB:(R+1) ^ R<(Bd+1)*(Bd+1)):∃ x:Nat->Int,x k≠0/\(∀ i,(x i).natAbs<=Bd)/\∀ b,b<k->dot (O.getD b []) (plF n (aP k ps j) (λi=>(x i:Rat)) (k+1))=0:=by
 obtain ⟨x,⟨b,hb,hb0⟩,hx,hz⟩:=zeu hR hB (λi c=>sgI (at' (O.getD i []) (aP k ps j c))) λi c=>zet _;have hO:∀ b,b<k->dot (O.getD b []) (plF n (aP k ps j) (λi=>(x i:Rat)) (k+1))=0:=λi hi=>by
  have hm:O.getD i []∈O:=yG (by rw [h.olen];omega);rw [xZ (h.oG _ hm) _ λi _=>h.colR hk hj i];have:=hz i hi;rw [show (0:Rat)=((0:Int):Rat) from rfl,<- this,<- xT];exact jJ λc _=>by rw [Zcg,(h.osg _ hm _).int]
 refine ⟨x,λe=>hb0 ?_,hx,hO⟩;have down:∀ d i,i<=k->k<=i+d->x i=0:=by
  intro d
  induction d with
  | zero =>
   intro i h1 h2;obtain rfl:i=k:=by omega
   exact e
  | succ d ih =>
   intro i h1 h2;by_cases c:k<=i+d
   .exact ih i h1 c
   have hil:i<P.length:=by omega
   have hP:=h.ker i hil _ (kQ _) λb hb=>hO b (by omega);rw [h.pl hk hj _ (h.row _ (yG hil)),e,kP (i:=i) (x:=λb=>(x b:Rat)) λb hb => ?_,if_pos (by omega)] at hP
   .have h0:((0:Int):Rat)=0:=rfl;rw [h0,Zbx,Zdu] at hP;exact Classical.byContradiction λq=>vD q hP
   .rcases Zgy b i with q | q | q
    .rw [h.low i b hil q,if_neg (by omega)]
    .subst q;rw [h.one _ hil,if_pos rfl]
    .rw [if_neg (by omega),ih b (by omega) (by omega),show ((0:Int):Rat)=0 from rfl];grind
 exact down (k-b) b hb (by omega)
theorem zg6 {z w:Int} {q:Rat} {M:Nat} (e:q*(w:Rat)=(z:Rat)) (hz:z.natAbs<=M):Dn w.natAbs M q:=by
 by_cases s:0<w
 .exact ⟨z,by rw [show ((w.natAbs:Nat):Int)=w by omega];exact e,hz⟩
 .exact ⟨-z,by rw [show ((w.natAbs:Nat):Int) = -w by omega,Zcu,Zcu];grind,by omega⟩
structure Rt (n:Nat) (O P:List (List Rat)) (ps:List Nat) (r0:List Rat) (k:Nat) (r:List Rat):Prop where
 len:r.length=n
 zero:∀ b,b<k->at' r (ps.getD b 0)=0
 eq:∀ f:List Rat,f.length=n->(∀ b,b<k->dot (O.getD b []) f=0)->dot r f=dot r0 f
theorem Rt.start {n:Nat} {O P:List (List Rat)} {ps:List Nat} {r0:List Rat} (h:r0.length=n):Rt n O P ps r0 0 r0:=⟨h,λb h=>by omega,λ_ _ _=>rfl⟩
theorem Rt.next {n k:Nat} {O P:List (List Rat)} {ps:List Nat} {r0 r:List Rat} (hT:Tv n O P ps) (h:Rt n O P ps r0 k r) (hk:k<P.length):Rt n O P ps r0 (k+1) (jT (at' r (ps.getD k 0)) r (P.getD k [])):=by
 have hl:r.length=(P.getD k []).length:=by rw [h.len,hT.row _ (yG hk)]
 refine ⟨by rw [j3 hl,h.len],λb hb => ?_,λf hf hO => ?_⟩
 .rw [jK hl];by_cases e:b=k
  .rw [e,hT.one k hk];grind
  .rw [h.zero b (by omega),hT.low k b hk (by omega)];grind
 .rw [q0 _ _ _ _ hl,hT.ker k hk f hf λb hb=>hO b (by omega),h.eq f hf λb hb=>hO b (by omega),Zbx];grind
theorem Rt.col {n k R Bd:Nat} {O P:List (List Rat)} {ps:List Nat} {r0 r:List Rat} (hT:Tv n O P ps) (h:Rt n O P ps r0 k r) (h0:r0.length=n) (hs:∀ j,Sg (at' r0 j)) (hk:k<=P.length) (hR:k<=R) (hB:(R+1) ^ R<(Bd+1)*(Bd+1)) (hB1:1<=Bd) (j:Nat):∃ t,1<=t/\t<=Bd/\Dn t ((k+1)*Bd) (at' r j):=by
 rcases Zcz j n with hj | hj
 case inr=>exact ⟨1,Zaf _,hB1,by rw [jN (by rw [h.len];exact hj)];exact Dn.zero _ _⟩
 obtain ⟨x,hxk,hx,hO⟩:=hT.sol hk hj hR hB;have e:=h.eq _ (kQ _) hO;rw [hT.pl hk hj _ h.len,hT.pl hk hj _ h0,wD λb hb=>by rw [h.zero b hb,Zbj],Rat.zero_add] at e;refine ⟨(x k).natAbs,by omega,hx k,zg6 (z:=sI k (λb=>sgI (at' r0 (ps.getD b 0))*x b)+sgI (at' r0 j)*x k) ?_ ?_⟩
 .rw [e,Zfe,<- xT,Zcg,(hs j).int]
  congr 1
  exact jJ λb _=>by rw [Zcg,(hs _).int]
 .have h1:=zkr (F:=λb=>sgI (at' r0 (ps.getD b 0))*x b) (k:=k) λb _=>Zax (zdi _ _) (hx b);have h2:=Zax (zdi (at' r0 j) (x k)) (hx k);have:=Zdy (sI k (λb=>sgI (at' r0 (ps.getD b 0))*x b)) (sgI (at' r0 j)*x k);rw [Zbd,Zdh];omega
theorem Tv.kn {n k R Bd:Nat} {O P:List (List Rat)} {ps:List Nat} (h:Tv n O P ps) (hk:k<P.length) (hR:k+1<=R) (hB:(R+1) ^ R<(Bd+1)*(Bd+1)) (hB1:1<=Bd) (j:Nat):∃ t,1<=t/\t<=Bd/\Dn t Bd (at' (P.getD k []) j):=by
 have hl:=h.row _ (yG (d:=[]) hk);rcases Zcz j n with hj | hj
 case inr=>exact ⟨1,Zaf _,hB1,by rw [jN (by rw [hl];exact hj)];exact Dn.zero _ _⟩
 obtain ⟨x,hxk,hx,hO⟩:=h.sol (k:=k+1) hk hj hR hB;have e:=h.ker k hk _ (kQ _) λb hb=>hO b (by omega);rw [h.pl hk hj _ hl,kP (i:=k) (x:=λb=>(x b:Rat)) λb hb => ?_,if_pos (by omega)] at e
 .refine ⟨(x (k+1)).natAbs,by omega,hx _,zg6 (z := -x k) (by rw [Zcu];grind) (by rw [Zdr];exact hx k)⟩
 .by_cases q:b=k
  .subst q;rw [h.one _ hk,if_pos rfl]
  .rw [h.low k b hk (by omega),if_neg (by omega)]
theorem Tv.add {n p:Nat} {O P:List (List Rat)} {ps:List Nat} {r0 r:List Rat} (hT:Tv n O P ps) (h:Rt n O P ps r0 P.length r) (h0:r0.length=n) (hs:∀ j,Sg (at' r0 j)) (hp:p<n) (hv:at' r p≠0):Tv n (O++[r0]) (P++[yM (at' r p)⁻¹ r]) (ps++[p]):=by
 have hl:=hT.len;have ol:=hT.olen;have ga:∀ {α:Type} {l:List α} {x d:α} {a:Nat},a<l.length->(l++[x]).getD a d=l.getD a d:=λh=>by
  rw [Zaa,Zaa,List.getElem?_append_left h]
 have gl:∀ {α:Type} {l:List α} {x d:α} {a:Nat},a=l.length->(l++[x]).getD a d=x:=λh=>by
  subst h;rw [Zaa,List.getElem?_append_right (Zaf _),Zcj];rfl
 refine ⟨by simp [hl],by simp [ol],λq hq => ?_,λo ho => ?_,λo ho => ?_,λq hq => ?_,λa ha => ?_,λa b ha hb => ?_,λa ha f hf hO => ?_⟩
 .rcases List.mem_append.1 hq with q1 | q1
  .exact hT.row _ q1
  .rw [List.mem_singleton.1 q1,jW];exact h.len
 .rcases List.mem_append.1 ho with q1 | q1
  .exact hT.oG _ q1
  .rw [List.mem_singleton.1 q1];exact h0
 .rcases List.mem_append.1 ho with q1 | q1
  .exact hT.osg _ q1
  .rw [List.mem_singleton.1 q1];exact hs
 .rcases List.mem_append.1 hq with q1 | q1
  .exact hT.rng _ q1
  .rw [List.mem_singleton.1 q1];exact hp
 .rw [Zae,Zbf] at ha;by_cases e:a<P.length
  .rw [ga e,ga (by omega)];exact hT.one a e
  .rw [gl (by omega),gl (by omega),uH];grind
 .rw [Zae,Zbf] at ha;rw [ga (l:=ps) (by omega)];by_cases e:a<P.length
  .rw [ga e];exact hT.low a b e hb
  .rw [gl (by omega),uH,h.zero b (by omega),Zbj]
 .rw [Zae,Zbf] at ha;by_cases e:a<P.length
  .rw [ga e];exact hT.ker a e f hf λb hb=>by have:=hO b hb;rwa [ga (by omega)] at this
  .have e2:a=P.length:=by omega
   rw [gl e2,xM,h.eq f hf λb hb=>by have:=hO b (by omega);rwa [ga (by omega)] at this];have:=hO a (Zaf _);rw [gl (by omega)] at this;rw [this,Zbx]
theorem qE:∀ (a c b d:List Rat),a.length=c.length->dot (a++b) (c++d)=dot a c+dot b d
 | [],[],b,d,_=>by show dot b d=dot [] []+dot b d;rw [show dot [] []=0 from rfl];grind
 | x::a,y::c,b,d,h=>by
  have:=qE a c b d (by simpa using h);rw [Zca,Zca,dot,dot,this];grind
 | [],_::_,_,_,h=>by simp at h
 | _::_,[],_,_,h=>by simp at h
theorem zbw (a:List Rat) (n:Nat):dot a (List.replicate n 0)=0:=pJ a n
theorem wC (m i j:Nat):at' (qA m i) j=if i=j/\j<m then 1 else 0:=by
 unfold qA;by_cases e:i=j
 .subst e;by_cases h:i<m
  .rw [if_pos ⟨rfl,h⟩,at',Zaa,List.getElem?_set_self (by rw [Zau];exact h)];rfl
  .rw [if_neg (by omega),jN (by rw [Zas,Zau];omega)]
 .rw [if_neg (by omega),at',Zaa,List.getElem?_set_ne e,<- Zaa];exact xV m j
theorem zbx:∀ (a b:List Rat),a.length=b.length->dot a b=sR a.length λj=>at' a j*at' b j:=by
 intro a b h;have key:∀ k,k<=a.length->dot (a.take k) (b.take k)=sR k λj=>at' a j*at' b j:=by
  intro k
  induction k with
  | zero=>intro _;rfl
  | succ k ih =>
   intro hk;rw [Zat,Zat,uA (q:=a) (by omega),uA (q:=b) (by omega),Zdn,Zdn,qE _ _ _ _ (by rw [Zai,Zai];omega),ih (by omega),sR];show _+(at' a k*at' b k+dot [] [])=_;rw [show dot [] []=0 from rfl];grind
 have:=key a.length (Zaf _);rw [Zcx,h,Zcx,<- h] at this;exact this
theorem dV {n c:Nat} {q:List Rat} (hq:q.length=n) (hc:c<n):dot q (qA n c)=at' q c:=by
 rw [zbx _ _ (by rw [hq,gU]),hq,kP (i:=c) (x:=λj=>at' q j) λb hb => ?_,if_pos hc];rw [wC];by_cases e:c=b
 .rw [if_pos ⟨e,hb⟩,if_pos e];grind
 .rw [if_neg (by omega),if_neg e];grind
theorem vH {n:Nat} {r g:List Rat} (hr:r.length=n) {j:Nat} (hj:j<n):at' (r++g) j=at' r j:=by
 rw [at',Zaa,List.getElem?_append_left (by omega),<- Zaa]
theorem wN {n:Nat} {r g:List Rat} (hr:r.length=n) (j:Nat):at' (r++g) (n+j)=at' g j:=by
 rw [at',Zaa,List.getElem?_append_right (by omega),hr,Zbz,<- Zaa]
theorem zg7 (p:List Rat) (n j:Nat):at' (p.drop n) j=at' p (n+j):=by
 rw [at',Zaa,List.getElem?_drop,<- Zaa]
theorem mV {p:List Rat} {n j:Nat} (hj:j<n):at' (p.take n) j=at' p j:=by
 rw [at',Zaa,List.getElem?_take_of_lt hj,<- Zaa]
theorem zmg {n:Nat} {b:Rat} {r g p:List Rat} (hr:r.length=n) (hp:n<=p.length):jT b (r++g) p=jT b r (p.take n)++jT b g (p.drop n):=by
 unfold jT
 conv=>lhs;rw [<- Zem n p]
 rw [Zgk (by rw [Zai];omega)]
theorem zby (b:Rat) (r g:List Rat):yM b (r++g)=yM b r++yM b g:=Zaz ..
abbrev liQ (n:Nat) (lines:List (List Int)) (i:Nat):List Rat:=tF n (lines.getD i [])
def lhQ (n:Nat) (lines:List (List Int)) (i:Nat):List Rat:=liQ n lines i++qA lines.length i
theorem cA (n:Nat) (lines:List (List Int)) (i:Nat):(lhQ n lines i).length=n+lines.length:=by rw [lhQ,Zae,jE,gU]
theorem zja (n:Nat) (lines:List (List Int)) (i j:Nat):Sg (at' (lhQ n lines i) j):=by
 have:∀ {q:Rat},q=0\/q=1->Sg q:=λh=>h.elim (λe=>.inr (.inl e)) λe=>.inr (.inr e);by_cases hj:j<n
 .rw [lhQ,vH (jE ..) hj];exact this (zeo ..)
 .rw [show j=n+(j-n) by omega,lhQ,wN (jE ..)];exact this (zbr ..)
def DepL (n:Nat) (lines:List (List Int)) (d:Nat×List Rat):Prop:=d.1<lines.length/\d.2.length=d.1/\(∃ t,1<=t/\t<=HB/\∀ j,Dn t (13*HB) (at' d.2 j))/\∀ c,c<n->at' (liQ n lines d.1) c=sR d.1 λk=>at' d.2 k*at' (liQ n lines k) c
structure Dv (n:Nat) (lines:List (List Int)) (i:Nat) (fr:List Nat) (P:List (List Rat)) (ps:List Nat) (D:List (Nat×List Rat)):Prop where
 tv:Tv (n+lines.length) (fr.map (lhQ n lines)) P ps
 pr:∀ p∈ps,p<n
 cnt:P.length+D.length=i
 nd:fr.Nodup
 frl:∀ x∈fr,x<i
 sup:∀ q∈P,∀ j,i<=j->at' q (n+j)=0
 cov:∀ j,j<i->∀ f:List Rat,f.length=n->(∀ q∈P,dot (q.take n) f=0)->dot (liQ n lines j) f=0
 dep:∀ d∈D,DepL n lines d
 ffl:fr=(List.range i).filter λx=>decide (x∈fr)
 dix:D.map (·.1)=(List.range i).filter λx => !decide (x∈fr)
 dsup:∀ d∈D,∀ k,k∉fr->at' d.2 k=0
theorem Dv.nil (n:Nat) (lines:List (List Int)):Dv n lines 0 [] [] [] []:=⟨Tv.nil _,by simp,rfl,by simp,by simp,by simp,λj h=>by omega,by simp,rfl,rfl,by simp⟩
structure Dw (n:Nat) (lines:List (List Int)) (i:Nat) (fr:List Nat) (P:List (List Rat)) (ps:List Nat) (k:Nat) (r f:List Rat):Prop where
 rl:r.length=n
 fl:f.length=lines.length
 rt:∃ g,g.length=lines.length/\(∀ j,at' f j=at' (qA lines.length i) j-at' g j)/\Rt (n+lines.length) (fr.map (lhQ n lines)) P ps (lhQ n lines i) k (r++g)
 late:∀ j,i<=j->at' f j=0
 conv:∀ φ:List Rat,φ.length=n->(∀ q∈P,dot (q.take n) φ=0)->dot r φ=dot (liQ n lines i) φ
theorem Dw.start {n i:Nat} {lines:List (List Int)} {fr:List Nat} {P:List (List Rat)} {ps:List Nat}:Dw n lines i fr P ps 0 (liQ n lines i) (List.replicate lines.length 0) :=
 ⟨jE ..,Zau,⟨qA lines.length i,gU ..,λj=>by rw [xV];grind,Rt.start (cA ..)⟩,λj _=>xV _ _,λ_ _ _=>rfl⟩
theorem Dw.next {n i k:Nat} {lines:List (List Int)} {fr:List Nat} {P:List (List Rat)} {ps:List Nat} {D:List (Nat×List Rat)} {r f:List Rat} (hD:Dv n lines i fr P ps D) (h:Dw n lines i fr P ps k r f) (hk:k<P.length):Dw n lines i fr P ps (k+1) (jT (at' r (ps.getD k 0)) r ((P.getD k []).take n)) (jT (-(at' r (ps.getD k 0))) f ((P.getD k []).drop n)):=by
 obtain ⟨hrl,hfl,⟨g,hgl,hfg,hrt⟩,aA,oh⟩:=h;have hT:=hD.tv;have hm:=yG (d:=[]) hk;have hpl:=hT.row _ hm;have hpk:ps.getD k 0<n:=hD.pr _ (yG (by rw [hT.len];exact hk));have l1:r.length=((P.getD k []).take n).length:=by rw [Zai];omega
 have l2:f.length=((P.getD k []).drop n).length:=by rw [Zcd];omega
 have l3:g.length=((P.getD k []).drop n).length:=by rw [Zcd];omega
 refine ⟨by rw [j3 l1];exact hrl,by rw [j3 l2];exact hfl,⟨jT (at' r (ps.getD k 0)) g ((P.getD k []).drop n),by rw [j3 l3];exact hgl,λj => ?_,?_⟩,λj hj => ?_,λφ hφ hP => ?_⟩
 .rw [jK l2,jK l3,hfg j];grind
 .have:=hrt.next hT hk;rw [vH hrl hpk,zmg hrl (by omega)] at this;exact this
 .rw [jK l2,aA j hj,zg7,hD.sup _ hm j hj];grind
 .rw [q0 _ _ _ _ l1,hP _ hm,oh φ hφ hP,Zbx];grind
theorem Dw.col {n i k R Bd:Nat} {lines:List (List Int)} {fr:List Nat} {P:List (List Rat)} {ps:List Nat} {D:List (Nat×List Rat)} {r f:List Rat} (hD:Dv n lines i fr P ps D) (h:Dw n lines i fr P ps k r f) (hk:k<=P.length) (hR:k<=R) (hB:(R+1) ^ R<(Bd+1)*(Bd+1)) (hB1:1<=Bd):(∀ j,∃ t,1<=t/\t<=Bd/\Dn t ((R+2)*Bd) (at' r j))/\∀ j,∃ t,1<=t/\t<=Bd/\Dn t ((R+2)*Bd) (at' f j):=by
 obtain ⟨hrl,hfl,⟨g,hgl,hfg,hrt⟩,aA,oh⟩:=h;have hc:=hrt.col hD.tv (cA ..) (λj=>zja n lines i j) hk hR hB hB1;have hle:(k+1)*Bd<=(R+1)*Bd:=Zbc _ (by omega);have e2:(R+2)*Bd=(R+1)*Bd+Bd:=by rw [show R+2=R+1+1 from rfl,Zbd (R+1) 1,Zdh]
 refine ⟨λj => ?_,λj => ?_⟩
 .by_cases hj:j<n
  .obtain ⟨t,h1,h2,h3⟩:=hc j;rw [vH hrl hj] at h3;exact ⟨t,h1,h2,h3.mono (by omega)⟩
  .rw [jN (by omega)];exact ⟨1,Zaf _,hB1,Dn.zero _ _⟩
 .obtain ⟨t,h1,h2,h3⟩:=hc (n+j);rw [wN hrl] at h3;refine ⟨t,h1,h2,?_⟩;rw [hfg j];have hu:Sg (at' (qA lines.length i) j):=(zbr lines.length i j).elim (λe=>.inr (.inl e)) λe=>.inr (.inr e);exact ((hu.dn (M:=Bd) h2).sub h3).mono (by omega)
def xN (O:List (List Rat)) (u:Nat->Int) (r0:List Rat) (c:Int):Nat->List Rat
 | 0=>yM (c:Rat) r0
 | b+1=>jT (-(u b:Rat)) (xN O u r0 c b) (O.getD b [])
theorem mQ {n:Nat} {O:List (List Rat)} {u:Nat->Int} {r0:List Rat} {c:Int} (h0:r0.length=n) (hO:∀ o∈O,o.length=n):∀ k,k<=O.length->(xN O u r0 c k).length=n
 | 0,_=>by rw [xN,jW,h0]
 | k+1,hk=>by
  have:=mQ (u:=u) (c:=c) h0 hO k (by omega);rw [xN,j3 (by rw [this,hO _ (yG (by omega))]),this]
theorem zev {n:Nat} {O:List (List Rat)} {u:Nat->Int} {r0:List Rat} {c:Int} (h0:r0.length=n) (hO:∀ o∈O,o.length=n) (j:Nat):∀ k,k<=O.length->at' (xN O u r0 c k) j=sR k (λb=>at' (O.getD b []) j*(u b:Rat))+at' r0 j*(c:Rat)
 | 0,_=>by rw [xN,uH,sR];grind
 | k+1,hk=>by
  rw [xN,jK (by rw [mQ h0 hO k (by omega),hO _ (yG (by omega))]),zev h0 hO j k (by omega),sR];grind
theorem zg8 {n:Nat} {O:List (List Rat)} {u:Nat->Int} {r0 f:List Rat} {c:Int} (h0:r0.length=n) (hO:∀ o∈O,o.length=n):∀ k,k<=O.length->(∀ b,b<k->dot (O.getD b []) f=0)->dot (xN O u r0 c k) f=(c:Rat)*dot r0 f
 | 0,_,_=>by rw [xN,xM]
 | k+1,hk,h=>by
  rw [xN,q0 _ _ _ _ (by rw [mQ h0 hO k (by omega),hO _ (yG (by omega))]),zg8 h0 hO k (by omega) λb hb=>h b (by omega),h k (by omega)];grind
theorem Rt.den {n k R Bd:Nat} {O P:List (List Rat)} {ps:List Nat} {r0 r:List Rat} (hT:Tv n O P ps) (h:Rt n O P ps r0 k r) (h0:r0.length=n) (hs:∀ j,Sg (at' r0 j)) (hk:k<=P.length) (hR:k<=R) (hB:(R+1) ^ R<(Bd+1)*(Bd+1)) (ix:Nat->Nat) (hi1:∀ a,a<k->∀ b,b<k->at' (O.getD b []) (ix a)=if a=b then 1 else 0) (hi2:∀ a,a<k->ix a<n):∃ t,1<=t/\t<=Bd/\∀ j,Dn t ((k+1)*Bd) (at' r j):=by
 have hol:=hT.olen;obtain ⟨u,⟨b,hb,hb0⟩,hu,hz⟩:=zeu hR hB (λi c=>if c<k then sgI (at' (O.getD c []) (ps.getD i 0)) else sgI (at' r0 (ps.getD i 0))) λi c=>by
  show (if c<k then _ else _)=(-1:Int)\/_;split <;> exact zet _
 have hsum:∀ j,at' (xN O u r0 (u k) k) j=((sI (k+1) (λc=>(if c<k then sgI (at' (O.getD c []) j) else sgI (at' r0 j))*u c):Int):Rat):=λj=>by
  rw [zev h0 hT.oG j k (by omega),<- xT,sR]
  congr 1
  .exact jJ λc hc=>by rw [if_pos hc,Zcg,(hT.osg _ (yG (by omega)) _).int]
  .rw [if_neg (Zdg k),Zcg,(hs j).int]
 have hpz:∀ i,i<k->at' (xN O u r0 (u k) k) (ps.getD i 0)=0:=λi hi=>by
  rw [hsum,hz i hi];rfl
 have hcl:=mQ (u:=u) (c:=u k) h0 hT.oG k (by omega);have main:∀ j,j<n->at' (xN O u r0 (u k) k) j=(u k:Rat)*at' r j:=λj hj=>by
  obtain ⟨x,hxk,_,hO⟩:=hT.sol hk hj hR hB;have e1:=zg8 (u:=u) (c:=u k) h0 hT.oG k (by omega) hO;rw [<- h.eq _ (kQ _) hO,hT.pl hk hj _ h.len,hT.pl hk hj _ hcl,wD λb hb=>by rw [hpz b hb,Zbj],wD λb hb=>by rw [h.zero b hb,Zbj]] at e1;have:=vD hxk
  grind
 have huk:u k≠0:=λe=>by
  rcases Zcz b k with q | q
  .have e1:=main (ix b) (hi2 b q);rw [zev h0 hT.oG _ k (by omega),kP (i:=b) (x:=λa=>(u a:Rat)) λa ha=>by rw [hi1 b q a ha],if_pos q,e,show ((0:Int):Rat)=0 from rfl,Zbx,Zbj,Zdu] at e1;exact vD hb0 e1
  .obtain rfl:b=k:=by omega
   exact hb0 e
 refine ⟨(u k).natAbs,by omega,hu k,λj => ?_⟩;by_cases hj:j<n
 .refine zg6 (z:=sI (k+1) (λc=>(if c<k then sgI (at' (O.getD c []) j) else sgI (at' r0 j))*u c)) ?_ (zkr λc _ => ?_)
  .rw [<- hsum,main j hj];grind
  .have:=hu c;split
   .exact Zax (zdi _ _) this
   .exact Zax (zdi _ _) this
 .rw [jN (by rw [h.len];omega)];exact Dn.zero _ _
theorem zbz {fr:List Nat} {f:Nat->List Rat} {b:Nat} (h:b<fr.length):(fr.map f).getD b []=f (fr.getD b 0):=by
 rw [Zaa,List.getElem?_map,gR (d:=0) h];rfl
theorem zqf {i:Nat} {fr:List Nat} (h:fr=(List.range i).filter λx=>decide (x∈fr)) (hn:i∉fr):fr=(List.range (i+1)).filter λx=>decide (x∈fr):=by
 rw [Zef,Zfl,<- h,List.filter_cons_of_neg (by simpa using hn),Zgg,Zbh]
theorem zks {i:Nat} {fr:List Nat} {D:List (Nat×List Rat)} {f:List Rat} (h:D.map (·.1)=(List.range i).filter λx => !decide (x∈fr)) (hn:i∉fr):(D++[(i,f)]).map (·.1)=(List.range (i+1)).filter λx => !decide (x∈fr):=by
 rw [Zaz,h,Zef,Zfl,List.filter_cons_of_pos (by simpa using hn),Zgg];rfl
theorem zkt {i:Nat} {fr:List Nat} (h:fr=(List.range i).filter λx=>decide (x∈fr)) (hl:∀ x∈fr,x<i):fr++[i]=(List.range (i+1)).filter λx=>decide (x∈fr++[i]):=by
 have e:(List.range i).filter (λx=>decide (x∈fr++[i]))=(List.range i).filter λx=>decide (x∈fr):=Zfr λx hx=>by
  have:=List.mem_range.1 hx;refine decide_eq_decide.2 ⟨λq=>(List.mem_append.1 q).elim id λq => ?_,Zbw _⟩;have:=List.mem_singleton.1 q;omega
 rw [Zef,Zfl,e,<- h,List.filter_cons_of_pos (by simp),Zgg]
theorem zg9 {i:Nat} {fr:List Nat} {D:List (Nat×List Rat)} (h:D.map (·.1)=(List.range i).filter λx => !decide (x∈fr)) (hl:∀ x∈fr,x<i):D.map (·.1)=(List.range (i+1)).filter λx => !decide (x∈fr++[i]):=by
 have e:(List.range i).filter (λx => !decide (x∈fr++[i]))=(List.range i).filter λx => !decide (x∈fr):=Zfr λx hx=>by
  have:=List.mem_range.1 hx
  congr 1
  refine decide_eq_decide.2 ⟨λq=>(List.mem_append.1 q).elim id λq => ?_,Zbw _⟩;have:=List.mem_singleton.1 q;omega
 rw [Zef,Zfl,e,<- h,List.filter_cons_of_neg (by simp),Zgg,Zbh]
theorem Dw.supp {n i k:Nat} {lines:List (List Int)} {fr:List Nat} {P:List (List Rat)} {ps:List Nat} {D:List (Nat×List Rat)} {r f:List Rat} (hD:Dv n lines i fr P ps D) (h:Dw n lines i fr P ps k r f) (hi:i<lines.length) (j:Nat) (hj:j∉fr) (hjm:j<lines.length) (hk:k<=P.length:=by exact Zaf _):at' f j=0:=by
 obtain ⟨hrl,hfl,⟨g,hgl,hfg,hrt⟩,aA,oh⟩:=h;have hol:=hD.tv.olen;rw [Zah] at hol;have e:=hrt.eq (List.replicate n 0++qA lines.length j) (by rw [Zae,Zau,gU]) λb hb=>by
  have hne:fr.getD b 0≠j:=λq=>hj (q ▸ yG (by omega));rw [zbz (by omega),lhQ,qE _ _ _ _ (by rw [jE,Zau]),zbw,dV (gU ..) hjm,wC,if_neg (λq=>hne q.1)];grind
 rw [lhQ,qE _ _ _ _ (by rw [hrl,Zau]),qE _ _ _ _ (by rw [jE,Zau]),zbw,zbw,dV hgl hjm,dV (gU ..) hjm] at e;have:=hfg j
 grind
theorem Dw.den {n i k R Bd:Nat} {lines:List (List Int)} {fr:List Nat} {P:List (List Rat)} {ps:List Nat} {D:List (Nat×List Rat)} {r f:List Rat} (hD:Dv n lines i fr P ps D) (h:Dw n lines i fr P ps k r f) (hi:i<lines.length) (hk:k<=P.length) (hR:k<=R) (hB:(R+1) ^ R<(Bd+1)*(Bd+1)):∃ t,1<=t/\t<=Bd/\∀ j,Dn t ((R+2)*Bd) (at' f j):=by
 obtain ⟨hrl,hfl,⟨g,hgl,hfg,hrt⟩,aA,oh⟩:=h;have hol:=hD.tv.olen;rw [Zah] at hol
 obtain ⟨t,h1,h2,h3⟩:=hrt.den hD.tv (cA ..) (λj=>zja n lines i j) hk hR hB (λa=>n+fr.getD a 0) (λa ha b hb=>by
  show at' _ (n+fr.getD a 0)=_;have hfa:=hD.frl _ (yG (l:=fr) (i:=a) (d:=0) (by omega));rw [zbz (by omega),lhQ,wN (jE ..),wC];by_cases e:a=b
  .rw [if_pos ⟨by rw [e],by omega⟩,if_pos e]
  .rw [if_neg λq=>e ?_,if_neg e];have ga:=gR (l:=fr) (i:=a) (d:=0) (by omega);have gb:=gR (l:=fr) (i:=b) (d:=0) (by omega);rw [q.1,<- ga] at gb;exact ((List.getElem?_inj (show b<fr.length by omega) hD.nd).1 gb).symm) (λa ha=>by
  have hfa:=hD.frl _ (yG (l:=fr) (i:=a) (d:=0) (by omega));show n+_<_;omega)
 have hle:(k+1)*Bd<=(R+1)*Bd:=Zbc _ (by omega);have e2:(R+2)*Bd=(R+1)*Bd+Bd:=by rw [show R+2=R+1+1 from rfl,Zbd (R+1) 1,Zdh]
 refine ⟨t,h1,h2,λj => ?_⟩;have h4:=h3 (n+j);rw [wN hrl] at h4;rw [hfg j];have hu:Sg (at' (qA lines.length i) j):=(zbr lines.length i j).elim (λe=>.inr (.inl e)) λe=>.inr (.inr e);exact ((hu.dn (M:=Bd) h2).sub h4).mono (by omega)
theorem Dv.zjb {n i:Nat} {lines:List (List Int)} {fr:List Nat} {P:List (List Rat)} {ps:List Nat} {D:List (Nat×List Rat)} {r f:List Rat} (hD:Dv n lines i fr P ps D) (h:Dw n lines i fr P ps P.length r f) (hi:i<lines.length) (hP:P.length<=11) (hz:∀ j,at' r j=0):Dv n lines (i+1) fr P ps (D++[(i,f.take i)]):=by
 obtain ⟨t,d1,d2,d3⟩:=h.den (R:=11) (Bd:=HB) hD hi (Zaf _) hP (by decide);have hfs:=h.supp hD hi;obtain ⟨hrl,hfl,⟨g,hgl,hfg,hrt⟩,aA,oh⟩:=h;have htk:∀ j,at' (f.take i) j=if j<i then at' f j else 0:=λj=>by
  by_cases e:j<i
  .rw [if_pos e,mV e]
  .rw [if_neg e,jN (by rw [Zai];omega)]
 have hni:i∉fr:=λhm=>by have:=hD.frl i hm;omega
 have zz0:∀ d∈D++[(i,f.take i)],∀ k,k∉fr->at' d.2 k=0:=λd hd k hk=>by
  rcases List.mem_append.1 hd with hd | hd
  .exact hD.dsup d hd k hk
  rw [List.mem_singleton.1 hd];show at' (f.take i) k=0;rw [htk];split
  .rename_i hki;exact hfs k hk (by omega)
  .rfl
 refine ⟨hD.tv,hD.pr,by rw [Zae,Zbf,<- Zcq,hD.cnt],hD.nd,λx hx=>Zdz (hD.frl x hx),λq hq j hj=>hD.sup q hq j (by omega),λj hj φ hφ hq => ?_,λd hd => ?_,zqf hD.ffl hni,zks hD.dix hni,zz0⟩
 .by_cases e:j=i
  .rw [e,<- oh φ hφ hq];exact xL _ _ hz
  .exact hD.cov j (by omega) φ hφ hq
 rcases List.mem_append.1 hd with hd | hd
 .exact hD.dep d hd
 obtain rfl:=List.mem_singleton.1 hd;refine ⟨hi,by show (f.take i).length=i;rw [Zai];omega,⟨t,d1,d2,λj => ?_⟩,λc hc => ?_⟩
 .show Dn t _ (at' (f.take i) j);rw [htk j];split
  .exact d3 j
  .exact Dn.zero _ _
 obtain ⟨ψ,hψ⟩:∃ ψ:List Rat,ψ=(List.range lines.length).map λj => -(at' (liQ n lines j) c):=⟨_,rfl⟩;have hψl:ψ.length=lines.length:=by rw [hψ,Zah,Zdx]
 have hψa:∀ j,j<lines.length->at' ψ j = -(at' (liQ n lines j) c):=λj hj=>by
  rw [hψ,at',Zaa,List.getElem?_map,List.getElem?_range hj];rfl
 have kill:∀ j,j<lines.length->dot (lhQ n lines j) (qA n c++ψ)=0:=λj hj=>by
  rw [lhQ,qE _ _ _ _ (by rw [jE,gU]),dV (jE ..) hc,zbx _ _ (by rw [gU,hψl]),gU,kP (i:=j) (x:=λb=>at' ψ b) λb hb => ?_,if_pos hj,hψa j hj]
  .grind
  .rw [wC];by_cases e:j=b
   .rw [if_pos ⟨e,hb⟩,if_pos e]
   .rw [if_neg (by omega),if_neg e]
 have e1:=hrt.eq (qA n c++ψ) (by rw [Zae,gU,hψl]) λb hb=>by
  have hol:=hD.tv.olen;rw [Zah] at hol;rw [zbz (by omega)];exact kill _ (by have:=hD.frl _ (yG (l:=fr) (i:=b) (d:=0) (by omega));omega)
 rw [kill i hi,qE _ _ _ _ (by rw [hrl,gU]),xL _ _ hz,zbx _ _ (by rw [hgl,hψl]),hgl] at e1;have cut:∀ k,k<=lines.length->sR k (λj=>at' g j*at' ψ j)=sR (min k i) (λj=>at' f j*at' (liQ n lines j) c)-if i<k then at' (liQ n lines i) c else 0:=by
  intro k
  induction k with
  | zero=>intro _;rw [Nat.zero_min,if_neg (by omega)];show (0:Rat)=0-0;grind
  | succ k ih =>
   intro hk;have e2:=ih (by omega);have e3:=hfg k;have e4:=wC lines.length i k;rw [sR,e2,hψa k (by omega)];rcases Zgy k i with q | q | q
   .rw [if_neg (by omega)] at e4;rw [Zbp (by omega),Zbp (by omega),if_neg (by omega),if_neg (by omega),sR];grind
   .subst q;rw [if_pos ⟨rfl,by omega⟩] at e4;have e5:=aA k (Zaf _);rw [Zbp (by omega),Zga (by omega),if_neg (by omega),if_pos (by omega)];grind
   .rw [if_neg (by omega)] at e4;have e5:=aA k (by omega);rw [Zga (by omega),Zga (by omega),if_pos q,if_pos (by omega)];grind
 rw [cut _ (Zaf _),Zga (by omega),if_pos hi] at e1;show at' (liQ n lines i) c=sR i λk=>at' (f.take i) k*at' (liQ n lines k) c;rw [jJ (G:=λj=>at' f j*at' (liQ n lines j) c) λk hk=>by rw [htk k,if_pos hk]]
 grind
theorem Dv.zwn {n i p:Nat} {lines:List (List Int)} {fr:List Nat} {P:List (List Rat)} {ps:List Nat} {D:List (Nat×List Rat)} {r f:List Rat} (hD:Dv n lines i fr P ps D) (h:Dw n lines i fr P ps P.length r f) (hi:i<lines.length) (hp:p<n) (hv:at' r p≠0):Dv n lines (i+1) (fr++[i]) (P++[yM (at' r p)⁻¹ r++yM (at' r p)⁻¹ ((yM (-1) f).set i 1)]) (ps++[p]) D/\(yM (at' r p)⁻¹ r).length=n:=by
 obtain ⟨hrl,hfl,⟨g,hgl,hfg,hrt⟩,aA,oh⟩:=h;have hgf:(yM (-1) f).set i 1=g:=by
  have hl:((yM (-1) f).set i 1).length=g.length:=by rw [Zas,jW];omega
  refine Zbm λj => ?_;by_cases hj:j<g.length
  .rw [uA (q:=g) hj,uA (q:=(yM (-1) f).set i 1) (by omega)]
   congr 1
   have e3:=hfg j;rw [wC] at e3;by_cases e:i=j
   .subst e;rw [if_pos ⟨rfl,by omega⟩,aA i (Zaf _)] at e3;rw [at',Zaa,List.getElem?_set_self (by rw [jW];omega)];show (1:Rat)=_
    grind
   .rw [if_neg (by omega)] at e3;rw [at',Zaa,List.getElem?_set_ne e,<- Zaa];show at' (yM (-1) f) j=_;rw [uH];grind
  .rw [List.getElem?_eq_none (by omega),List.getElem?_eq_none (by omega)]
 have hlr:(yM (at' r p)⁻¹ r).length=n:=by rw [jW];exact hrl
 refine ⟨?_,hlr⟩;rw [hgf,<- zby];have ht:=hD.tv.add (p:=p) hrt (cA ..) (λj=>zja n lines i j) (by omega) (by rw [vH hrl hp];exact hv);rw [vH hrl hp] at ht;refine ⟨by rw [Zaz];exact ht,λx hx => ?_,by rw [Zae,Zbf,<- hD.cnt];omega,?_,λx hx => ?_,λq hq j hj => ?_,λj hj φ hφ hq => ?_,hD.dep,zkt hD.ffl hD.frl,zg9 hD.dix hD.frl,λd hd k hk=>hD.dsup d hd k λq=>hk (Zbw _ q)⟩
 .rcases List.mem_append.1 hx with q | q
  .exact hD.pr x q
  .rw [List.mem_singleton.1 q];exact hp
 .refine List.nodup_append.2 ⟨hD.nd,by simp,λa ha b hb => ?_⟩;rw [List.mem_singleton.1 hb];have:=hD.frl a ha;omega
 .rcases List.mem_append.1 hx with q | q
  .exact Zdz (hD.frl x q)
  .rw [List.mem_singleton.1 q];exact Nat.lt_succ_self i
 .rcases List.mem_append.1 hq with q1 | q1
  .exact hD.sup q q1 j (by omega)
  .rw [List.mem_singleton.1 q1,uH,wN hrl];have e3:=hfg j;rw [wC,if_neg (by omega),aA j (by omega)] at e3
   grind
 .have old:∀ q∈P,dot (q.take n) φ=0:=λq hm=>hq q (Zbw _ hm);by_cases e:j=i
  .have:=hq _ (Zcr _ (List.mem_singleton.2 rfl));rw [zby,Zeg hlr,xM] at this;rw [e,<- oh φ hφ old]
   grind
  .exact hD.cov j (by omega) φ hφ old
end Go.Ev
namespace Go.Ev
open Go Go.Proofs
variable {B:Nat}
set_option maxRecDepth 100000
def zb0:List UInt8:=[0,1,2,2,3,3,3,3,4,4,4,4,4,4,4,4,5,5,5,5,5,5,5,5,5,5,5,5,5,5,5,5,6,6,6,6,6,6,6,6,6,6,6,6,6,6,6,6,6,6,6,6,6,6,6,6,6,6,6,6,6,6,6,6,7,7,7,7,7,7,7,7,7,7,7,7,7,7,7,7,7,7,7,7,7,7,7,7,7,7,7,7,7,7,7,7,7,7,7,7,7,7,7,7,7,7,7,7,7,7,7,7,7,7,7,7,7,7,7,7,7,7,7,7,7,7,7,7,8,8,8,8,8,8,8,8,8,8,8,8,8,8,8,8,8,8,8,8,8,8,8,8,8,8,8,8,8,8,8,8,8,8,8,8,8,8,8,8,8,8,8,8,8,8,8,8,8,8,8,8,8,8,8,8,8,8,8,8,8,8,8,8,8,8,8,8,8,8,8,8,8,8,8,8,8,8,8,8,8,8,8,8,8,8,8,8,8,8,8,8,8,8,8,8,8,8,8,8,8,8,8,8,8,8,8,8,8,8,8,8,8,8,8,8,8,8,8,8,8,8,8,8,8,8,8,8]
theorem zmh:∀ i<256,(zb0[i]?).all (λt=>decide (t.toNat<=8/\i<2 ^ t.toNat/\(0<i->2 ^ t.toNat<=2*i)))=true/\(zb0[i]?).isSome=true:=by decide
def zb1 (x n:Nat):Prop:=n<=64/\x<2 ^ n/\(0<x->2 ^ n<=2*x)
theorem zb2 {x n k:Nat} (h:zb1 (x / 2 ^ k) n) (hx:2 ^ k<=x) (hn:n+k<=64):zb1 x (n+k):=by
 obtain ⟨h1,h2,h3⟩:=h;have hp:0<2 ^ k:=Zgp (by omega);have h4:0<x / 2 ^ k:=Nat.div_pos hx hp;refine ⟨hn,?_,λ_ => ?_⟩
 .rw [Zek];exact (Zgb hp).1 h2
 .rw [Zek];have:=Zbc (2 ^ k) (h3 h4);have h5:=Nat.div_mul_le_self x (2 ^ k);rw [Zec] at this;omega
theorem zku {x n:Nat} {K:Kw Prop} {h:T Blk} {nx:Pa} {x2 x3 x4:AV} (hx:x<256) (hn:n<=1000) (hK:∀ t,zb1 x t->t<=8->K (I ((n+t:Nat):Int)) h nx=.ok True) :
  IR.run yo.t20 (CS Tryz.prog B) 100 (fnO yo.res K) (zi yo.res K) (yo.fr (U x) (I (n:Int)) x2 x3 x4) h nx=.ok True:=by
 obtain ⟨a,b⟩:=zmh x hx;obtain ⟨t,ht⟩:=Option.isSome_iff_exists.1 b;rw [ht] at a;simp only [Option.all_some,decide_eq_true_eq] at a;have hs:∀ K:AV->OP,j0 (.str zb0) (.int .u8 (x:Int)) K=K (.int .u8 (t.toNat:Int)):=λK=>by
  show (match zb0[x]? with
   | some b=>qz b.toNat λn=>K (.int .u8 (.ofNat n))
   | none=>.no 16)=_
  rw [ht];simp only [yK];rfl
 have hc:∀ K:AV->OP,kI .u8 (U x) K=K (.int .u8 (x:Int)):=λK=>by
  show qi (uS .u8 (x:Int)) (λz=>K (.int .u8 z))=_;rw [jM,uW];have e:IntKind.wrap .u8 (x:Int)=(x:Int)%256:=by
   unfold IntKind.wrap;first | rfl | simp [IntKind.bits,IntKind.signed]
  rw [e,show (x:Int)%256=(x:Int) by omega]
 rw [yo.t20,zA,yo.rH,hc];rw [show (AV.str [0,1,2,2,3,3,3,3,4,4,4,4,4,4,4,4,5,5,5,5,5,5,5,5,5,5,5,5,5,5,5,5,6,6,6,6,6,6,6,6,6,6,6,6,6,6,6,6,6,6,6,6,6,6,6,6,6,6,6,6,6,6,6,6,7,7,7,7,7,7,7,7,7,7,7,7,7,7,7,7,7,7,7,7,7,7,7,7,7,7,7,7,7,7,7,7,7,7,7,7,7,7,7,7,7,7,7,7,7,7,7,7,7,7,7,7,7,7,7,7,7,7,7,7,7,7,7,7,8,8,8,8,8,8,8,8,8,8,8,8,8,8,8,8,8,8,8,8,8,8,8,8,8,8,8,8,8,8,8,8,8,8,8,8,8,8,8,8,8,8,8,8,8,8,8,8,8,8,8,8,8,8,8,8,8,8,8,8,8,8,8,8,8,8,8,8,8,8,8,8,8,8,8,8,8,8,8,8,8,8,8,8,8,8,8,8,8,8,8,8,8,8,8,8,8,8,8,8,8,8,8,8,8,8,8,8,8,8,8,8,8,8,8,8,8,8,8,8,8,8,8,8,8,8,8,8])=.str zb0 from rfl,hs,zej (by omega),ug (by omega)];simp only [zF,zN];rw [yo.ret,show (n:Int)+(t.toNat:Int)=((n+t.toNat:Nat):Int) by omega];exact hK _ ⟨by omega,a.2⟩ a.1
theorem zqg {x:Nat} (hx:x<18446744073709551616):Pure Tryz.prog B 312 [U x] (λv=>∃ n:Nat,v=I (n:Int)/\zb1 x n):=by
 intro p h nx K hK;refine zM zQ yA 100 λhf => ?_;have fin:∀ {n},zb1 x n->K (I (n:Int)) h nx=.ok True:=λh'=>hK _ ⟨_,rfl,h'⟩ hf;have s3:∀ (y n:Nat) (x2 x3 x4:AV),y<65536->n<=48->(∀ t,zb1 y t->t<=16->K (I ((n+t:Nat):Int)) h nx=.ok True)->IR.run yo.t21 (CS Tryz.prog B) 100 (fnO yo.res K) (zi yo.res K) (yo.fr (U y) (I (n:Int)) x2 x3 x4) h nx=.ok True:=λy n x2 x3 x4 hy hn hK'=>by
  rw [yo.t21,zA,zA,yo.nS,show (AV.int .u64 256)=U 256 from rfl,uGeq,zB,yo.v4];by_cases c:256<=y
  .rw [Zac c,zD,zA,yo.nT,show (AV.int .u64 8)=.int .u64 ((8:Nat):Int) from rfl,uShr (by omega),yo.tH,ug (by omega),show (n:Int)+8=((n+8:Nat):Int) by omega];exact zku (by omega) (by omega) λt h1 h2=>by
    have:=hK' (t+8) (zb2 h1 c (by omega)) (by omega)
    rwa [show n+(t+8)=n+8+t by omega] at this
  .rw [Zab c,zC,zE];exact zku (by omega) (by omega) λt h1 h2=>hK' t h1 (by omega)
 have s2:∀ (y n:Nat) (x2 x3 x4:AV),y<4294967296->n<=32->(∀ t,zb1 y t->t<=32->K (I ((n+t:Nat):Int)) h nx=.ok True)->IR.run yo.t22 (CS Tryz.prog B) 100 (fnO yo.res K) (zi yo.res K) (yo.fr (U y) (I (n:Int)) x2 x3 x4) h nx=.ok True:=λy n x2 x3 x4 hy hn hK'=>by
  rw [yo.t22,zA,zA,yo.fe,show (AV.int .u64 65536)=U 65536 from rfl,uGeq,zB,yo.v3];by_cases c:65536<=y
  .rw [Zac c,zD,zA,yo.fE,show (AV.int .u64 16)=.int .u64 ((16:Nat):Int) from rfl,uShr (by omega),yo.nP,ug (by omega),show (n:Int)+16=((n+16:Nat):Int) by omega];exact s3 _ _ _ _ _ (by omega) (by omega) λt h1 h2=>by
    have:=hK' (t+16) (zb2 h1 c (by omega)) (by omega)
    rwa [show n+(t+16)=n+16+t by omega] at this
  .rw [Zab c,zC,zE];exact s3 _ _ _ _ _ (by omega) (by omega) λt h1 h2=>hK' t h1 (by omega)
 rw [yo.go,yo.t24,zA,yo.zw,zA,zA,yo.zu,show (AV.int .u64 4294967296)=U 4294967296 from rfl,uGeq,zB,yo.v2];by_cases c:4294967296<=x
 .rw [Zac c,zD,zA,yo.jd,show (AV.int .u64 32)=.int .u64 ((32:Nat):Int) from rfl,uShr (by omega),yo.pu];exact s2 _ 32 _ _ _ (by omega) (by omega) λt h1 h2=>by
   have:=fin (zb2 h1 c (by omega))
   rwa [show t+32=32+t by omega] at this
 .rw [Zab c,zC,zE];exact s2 _ 0 _ _ _ (by omega) (by omega) λt h1 h2=>by
   have:=fin h1
   rwa [show t=0+t by omega] at this
theorem uQuo {a b:Nat} {K:AV->OP} (hb:1<=b) (ha:a<18446744073709551616):zb .quo .int (U a) (U b) K=K (U (a / b)):=by
 have e:zb .quo .int (U a) (U b) K=(bif ieq (b:Int) 0 then Out.no 5 else qi (IntKind.u64.wrap ((a:Int).tdiv b)) λz=>K (.int .u64 z)):=rfl;have h0:ieq (b:Int) 0=false:=by
  cases b with
  | zero=>omega
  | succ b=>rfl
 have h1:a / b<=a:=Zcn a b;rw [e,h0,cond_false,jM,show (a:Int).tdiv b=((a / b:Nat):Int) from rfl]
 generalize a / b=q at *
 rw [zpw (by omega)]
theorem uRem {a b:Nat} {K:AV->OP} (hb:1<=b) (ha:a<18446744073709551616):zb .rem .int (U a) (U b) K=K (U (a%b)):=by
 have e:zb .rem .int (U a) (U b) K=(bif ieq (b:Int) 0 then Out.no 5 else qi ((a:Int).tmod b) λz=>K (.int .u64 z)):=rfl;have h0:ieq (b:Int) 0=false:=by
  cases b with
  | zero=>omega
  | succ b=>rfl
 rw [e,h0,cond_false,jM,show (a:Int).tmod b=((a%b:Nat):Int) from rfl]
theorem zqh {b q r d a z A:Nat} (h:A=z*d+r) (hq:(r*b+a)=q*d+(r*b+a)%d):a+b*A=(q+b*z)*d+(r*b+a)%d:=by
 rw [h,Zbd,Zei,Zec,Zbu b r];omega
theorem zqi {k:Nat} {Q:List Nat}:List.replicate (k+1) 0++Q=List.replicate k 0++0::Q:=by
 rw [Zgh,Zbo];rfl
theorem zqj {b:Nat} {l:List Nat} {k:Nat} (h:k<=l.length):bv b l=bv b (l.take k)+b ^ k*bv b (l.drop k):=by
 have:=qJ b (l.take k) (l.drop k)
 rwa [Zem,Zai,Zbp h] at this
def aQ (s w:AV) (z:Int):Prop :=
 (s=I z/\w=.za /\ -9223372036854775808<=z/\z<=9223372036854775807) \/
 (∃ n:Int,s=I n/\w=encW (dg 18446744073709551616 z.natAbs)/\((z<0/\n = -1)\/(0<z/\n=1))/\9223372036854775808<=z.natAbs)
def IntV (v:AV) (z:Int):Prop:=∃ s w,v=.agg [s,w]/\aQ s w z
theorem uAgg {N:Pa->Prop} {O:AV->Prop} {hh:T Blk} {l:List AV} (h:∀ v∈l,nu v=true):Frz True N O hh (.agg l) (.agg l) :=
 .agg _ _ rfl (List.all_eq_true.2 λv hv=>nu.uo (h v hv)) λi v v' h1 h2=>by rw [h1] at h2;cases h2;exact zV (h v (Zad h1))
theorem aQ.fix {s w:AV} {z:Int} (h:aQ s w z):∀ v∈[s,w],nu v=true:=by
 intro v hv;simp only [Zao,List.not_mem_nil,or_false] at hv;rcases h with ⟨rfl,rfl,_⟩ | ⟨n,rfl,rfl,_⟩
 .rcases hv with rfl | rfl <;> rfl
 .rcases hv with rfl | rfl
  .rfl
  .exact zmb _
theorem IntV.frz {v:AV} {z:Int} (h:IntV v z) {N:Pa->Prop} {O:AV->Prop} {hh:T Blk}:Frz True N O hh v v:=by
 obtain ⟨s,w,rfl,h⟩:=h;exact uAgg h.fix
theorem zb3 {z:Int} (h : -9223372036854775808<=z/\z<=9223372036854775807):IntV (.agg [I z,.za]) z:=⟨_,_,rfl,.inl ⟨rfl,rfl,h.1,h.2⟩⟩
theorem zz1 {n:Nat} (h:n≠0):1<=(dg 18446744073709551616 n).length:=by rw [kN (by decide) h];simp
theorem zwo {K:AV->OP}:zb .eql (.nil .sl) .za .za K=K (.bool true):=nr rfl
theorem zsm {l:List Nat} (h:1<=l.length):gT .sl (encW l)=some false:=by
 show (bif Nat.ble 1 l.length then some false else none)=_;rw [Zag h];rfl
theorem zwp {l:List Nat} {K:AV->OP} (h:1<=l.length):zb .eql (.nil .sl) (encW l) .za K=K (.bool false):=by
 have e2:zb .eql (.nil .sl) (encW l) .za K=(match gT .sl (encW l),gT .sl .za with
  | some b,some true=>pC .eql b K
  | _,_=>.no 5):=nr rfl
 rw [e2,zsm h];rfl
theorem zsn {z:Int} {K:AV->OP}:j6 [(I 0),.za] [(0,1,I z)] K=K (.agg [I z,.za]):=nr rfl
def Zs (k:Nat) (z:Int):Prop:=z.natAbs<18446744073709551616 ^ k
theorem Zs.len {k:Nat} {z:Int} (h:Zs k z):(dg 18446744073709551616 z.natAbs).length<=k:=kO (by decide) h
theorem of85 {z:Int} (h : -9223372036854775808<=z/\z<=9223372036854775807):Pure Tryz.prog B 187 [I z] (λv=>IntV v z):=by
 refine zT λhh nx K H0 hK=>zM zQ yA 100 λhf => ?_;rw [fq.go,fq.t3,zA,fq.zw];refine H0.alloc λp h1 nx1 H1 => ?_;rw [zA,fq.zu,zsn];refine H1.jb (l2:=[I z,.za]) (k:=0) rfl rfl rfl λh4 H4 => ?_;simp only [zF,zN];rw [fq.ret,H4.zm (k:=0) (n:=2) rfl rfl];exact hK _ _ _ _ _ H4 (zb3 h).frz (zb3 h)
end Go.Ev
