import Derived.Test.YtfgpjkchdelphaaGreatDoorEvC
import Derived.Test.YtfgpjkchdelphaaGreatDoorLaws
import Derived.Test.YtfgpjkchdelphaaGreatDoorIrT
import Derived.Test.YtfgpjkchdelphaaGreatDoorEvD
import Derived.KernelRfl
import Derived.Test.YtfgpjkchdelphaaGreatDoorCodea
import GoSem.Core.Next
import Derived.Sort.Grow
import Derived.Sort.Row
import Derived.IntWalk
set_option linter.unusedSimpArgs false
set_option linter.unusedVariables false
noncomputable section
namespace Go.Ev
open Go Go.Proofs Go.RowKit
def mF:List AV->Option (List (List UInt8))
 | []=>some []
 | .str s::l=>match mF l with
  | some xs=>some (s::xs)
  | none=>none
 | _=>none
def ztu (l:List AV) (sep:List UInt8):Option AV:=match mF l with
 | some xs=>bif Nat.ble (Lib.join xs sep).length 100000 then some (.str (Lib.join xs sep)) else none
 | none=>none
def ztv (cap:Option Nat) (ln:Nat):Bool:=match cap with
 | some k=>Nat.ble ln k
 | none=>true
def zok (v:AV) (sep:List UInt8) (h:T Blk):Option AV:=match v with
 | .sl id off ln cap esz=>match T.get .no id h with
  | .cells _ m t=>bif Nat.beq esz 1&&Nat.ble (off+ln) m&&Nat.ble ln 100000&&ztv cap ln then ztu (yI t off ln) sep else none
  | _=>none
 | .zf=>some (.str [])
 | _=>none
def xZ (f:Nat) (args:List AV) (h:T Blk):Option (AV×T Blk):=bif Nat.beq f 281 then (match args with
 | [v,.str sep]=>match zok v sep h with
  | some v=>some (v,h)
  | none=>none
 | _=>none) else none
theorem zf7:∀ {l:List AV} {xs:List (List UInt8)},mF l=some xs->l=xs.map .str
 | [],xs,h=>by simp [mF] at h;subst h;rfl
 | x::l,xs,h=>by
  cases x <;> first | (simp [mF] at h;done) | skip
  simp only [mF] at h;cases hl:mF l with
  | none=>simp [hl] at h
  | some ys=>simp [hl] at h;subst h;simp [zf7 hl]
theorem HR.below {P:Program} {B:Nat} {E:Env} {h:T Blk} {nx:Pa} {w w':World} (H:HR P B E h nx w) (hb:Below w.heap.size w w'):HR P B E h nx w'/\Ex E E w w':=by
 refine ⟨{
  blk:=fun id hid=>by
   obtain ⟨b,n,o,q1,q2,q3⟩:=H.blk id hid;exact ⟨b,n,o,q1,by rw [hb.block b (H.lt _ _ _ q1).2];exact q2,q3⟩
  inj:=H.inj
  fresh:=H.fresh
  lt:=fun id b n hid=>⟨(H.lt id b n hid).1,Zcj (H.lt id b n hid).2 hb.size⟩
  base:=Zbk H.base hb.size
  frz:=fun b i v hf=>by
   obtain ⟨⟨c,ty,fr,q1,q2⟩,q3⟩:=H.frz b i v hf;exact ⟨⟨c,ty,fr,by rw [hb.block b (Array.getElem?_eq_some_iff.1 q1).1];exact q1,q2⟩,q3⟩ },?_⟩
 exact ⟨.refl _,hb.os,hb.tape,hb.output,hb.size,fun b hlt _=>hb.block b hlt,fun id b n hid=>.inr ⟨id,n,hid⟩,fun _ _ v h=>.inr (.inl ⟨v,h⟩),fun b L hL=>⟨L,by rw [hb.block b (Array.getElem?_eq_some_iff.1 hL).1];exact hL,.refl _⟩⟩
theorem uY {B:Nat}:JOk Tryz.prog B xZ:=by
 intro E h nx w f args vs v h2 H hv hj;unfold xZ at hj;cases hf:Nat.beq f 281 with
 | false=>simp [hf] at hj
 | true =>
  obtain rfl:=yD hf;rw [hf,cond_true] at hj;split at hj
  case h_2=>cases hj
  rename_i _ x sep;cases hjj:zok x sep h with
  | none=>simp [hjj] at hj
  | some v0 =>
  simp only [hjj,Option.some.injEq,Prod.mk.injEq] at hj;obtain ⟨rfl,rfl⟩:=hj;have hj:=hjj
  clear hjj
  refine ⟨(),trivial,trivial,trivial,fun n=>.inl ⟨_,Tryz.func281,by kernel_rfl,by kernel_rfl,callsIn_wide.2 ?_⟩⟩;obtain ⟨l⟩:=vs;simp only [VRL] at hv;obtain ⟨u,_,rfl,hu,s,_,rfl,hs,rfl⟩:=hv;simp only [VR] at hs;subst hs
  have fin:∀ (xs:List (List UInt8)) (w':World) (e:Ending),v0=.str (Lib.join xs sep)->e=.returned (.string ⟨(Lib.join ((xs.map fun s=>(⟨s.toArray⟩:ByteArray)).map (·.data.toList)) (⟨sep.toArray⟩:ByteArray).data.toList).toArray⟩)->Below w.heap.size w w' ->
    ∃ u E',e=.returned u/\VR E' v0 u/\HR Tryz.prog B E' h nx w'/\Ex E E' w w':=by
   intro xs w' e hve he hb;obtain ⟨h1,h2⟩:=H.below hb;refine ⟨_,E,he,?_,h1,h2⟩;rw [hve];simp only [VR,List.map_map]
   congr 2
   have:(xs.map ((fun x=>x.data.toList) ∘ fun s=>(⟨s.toArray⟩:ByteArray)))=xs:=by
    conv=>rhs;rw [<- List.map_id xs]
    exact List.map_congr_left fun _ _=>rfl
   rw [this]
  unfold zok at hj;split at hj
  ·rename_i id off ln cap esz;split at hj
   ·rename_i op m t hb;cases hq:(Nat.beq esz 1&&Nat.ble (off+ln) m&&Nat.ble ln 100000&&ztv cap ln) with
    | false=>simp [hq] at hj
    | true =>
     rw [hq,cond_true] at hj;simp only [Zac] at hq;obtain ⟨⟨⟨q1,q2⟩,q3⟩,q4⟩:=hq;obtain rfl:=yD q1;have q2:=yB q2;have q3:=yB q3;unfold ztu at hj;cases hx:mF (yI t off ln) with
     | none=>simp [hx] at hj
     | some xs =>
      simp only [hx] at hj;cases hl:Nat.ble (Lib.join xs sep).length 100000 with
      | false=>simp [hl] at hj
      | true =>
       rw [hl,cond_true] at hj;have hl:=yB hl;obtain rfl:=(Option.some.inj hj).symm;have hxs:=zf7 hx;have hln:xs.length=ln:=by
        have:=congrArg List.length hxs;simpa using this.symm
       obtain ⟨b,n,c,hE,rfl,hcap⟩:=hu.sD;obtain ⟨b',n',o,h1,h2,h3⟩:=H.blk id (by rw [hb];intro e;cases e);rw [hE] at h1;cases h1;rw [hb] at h3;obtain ⟨cs,ty,fr,rfl,_,_,_,_,hc⟩:=h3
       have hjn:=Tryz.strings_Join b off c (xs.map fun s=>(⟨s.toArray⟩:ByteArray)) ⟨sep.toArray⟩ w (by
        intro j x hx2;rw [List.getElem?_map] at hx2;cases hxj:xs[j]? with
        | none=>simp [hxj] at hx2
        | some s =>
         simp [hxj] at hx2;subst hx2;have hjl:j<ln:=by rw [<- hln];exact (List.getElem?_eq_some_iff.1 hxj).1
         obtain ⟨_,v',g1,g2⟩:=hc (off+j) (by omega);have he:T.get .u (.of (off+j)) t=.str s:=by
          have e1:=yO t off ln j hjl;rw [hxs] at e1;simp [hxj] at e1;exact e1.symm
         rw [he] at g2;simp only [VR] at g2;subst g2
         simp [World.cell?,h2,g1]) (H.lt _ _ _ hE).2 (by simp;omega) (by
          simp only [Zao,hln];cases cap with
          | none=>exact hcap.1
          | some k =>
           have h4:ln<=k:=yB q4;have h5:c=k:=hcap;omega) (by
          have:((xs.map fun s=>(⟨s.toArray⟩:ByteArray)).map (·.data.toList))=xs:=by
           rw [List.map_map]
           conv=>rhs;rw [<- List.map_id xs]
           exact List.map_congr_left fun _ _=>rfl
          rw [this];show (Lib.join xs sep).length<=_;omega)
       rw [Zao,hln] at hjn;exact hjn.mono fun e w' ⟨he,hb⟩=>fin xs w' e rfl he hb
   ·cases hj
  ·obtain rfl:=(Option.some.inj hj).symm;simp only [VR] at hu;subst hu;exact (Tryz.strings_Join_none none 0 _ w).mono fun e w' ⟨he,hb⟩=>fin [] w' e rfl he (hb ▸ Below.refl _ _)
  ·cases hj
end Go.Ev
namespace Go.Ev
open Go Go.Proofs
def wZ (J:Nat->List AV->T Blk->Option (AV×T Blk)) (f:Nat) (args:List AV) (res:AV):Bool:=match (vH (fun _=>false) J tbl 1000 60).fn f (.of f) args .e .z endK with
 | .ok v=>avEq v res
 | .no _=>false
theorem gR {J:Nat->List AV->T Blk->Option (AV×T Blk)} {f:Nat} {args:List AV} {res:AV} {B:Nat} (hJ:∀ B,JOk Tryz.prog B J) (ha:nns args=true) (h:wZ J f args res=true):Pure Tryz.prog B f args (· = res):=by
 unfold wZ at h;cases hq:(vH (fun _=>false) J tbl 1000 60).fn f (.of f) args .e .z endK with
 | no n=>rw [hq] at h;cases h
 | ok v =>
  rw [hq] at h;have e:=xG h;subst e;exact yW zP mixed hJ ha hq
theorem pY (s:List UInt8) (a:Int):nns [.str s,I a]=true:=rfl
def zyt (r c:Nat):List (List Int):=(List.range r).map fun i=>(List.range c).map fun k=>((c*i+k:Nat):Int)
def zyu (r c:Nat):List (List Int):=(List.range c).map fun k=>(List.range r).map fun i=>((c*i+k:Nat):Int)
def dedL (ls:List (List Int)):List (List Int):=ls.foldl (fun out l=>if out.contains l then out else out++[l]) []
def zi7 (n:Nat) (d:Int) (k:Nat):List Int:=(List.range n).map fun (r:Nat)=>(n:Int)*(r:Int)+(((k:Int)+d*(r:Int))%(n:Int))
def sqL (k:Nat) (n:Nat):List (List Int) :=
 dedL (zyt n n++zyu n n++(if k=0 then [] else [zi7 n 1 0,zi7 n (-1) (n-1)])++(if k=2 then (List.range n).map (zi7 n 1)++(List.range n).map (zi7 n (-1)) else []))
def uD (k:Nat):List UInt8:=if k=0 then [115,101,109,105,109,97,103,105,99] else if k=1 then [109,97,103,105,99] else [112,97,110,100,105,97,103,111,110,97,108]
def sqVZ (k n:Nat):AV:=.tup [.agg [I ((n*n:Nat):Int),encT (sqL k n)],I 0]
def ok65 (f:Nat) (k:Nat):Bool:=(List.range 6).all fun n=>wZ xZ f [.str (uD k),I ((n+1:Nat):Int)] (sqVZ k (n+1))
theorem pX {f k:Nat} (h:ok65 f k=true) {n:Nat} {B:Nat} (hn:1<=n/\n<=6):Pure Tryz.prog B f [.str (uD k),I (n:Int)] (· = sqVZ k n):=by
 have h2:=List.all_eq_true.1 h (n-1) (List.mem_range.2 (by omega));rw [show n-1+1=n by omega] at h2;exact gR (fun _=>uY) (pY _ _) h2
end Go.Ev
namespace Go.Ev
def bv (b:Nat):List Nat->Nat
 | []=>0
 | x::l=>x+b*bv b l
theorem kW (b:Nat):∀ l m:List Nat,bv b (l++m)=bv b l+b ^ l.length*bv b m
 | [],m=>by simp [bv]
 | x::l,m=>by
  rw [Zca,bv,kW b l m,bv,Zbh,Zbr,Zbj,Zbw,Zbx (b ^ l.length) b,Zbi]
theorem gH (b:Nat) (l:List Nat) (x:Nat):bv b (l++[x])=bv b l+b ^ l.length*x:=by
 rw [kW];simp [bv]
def Dg (b:Nat) (l:List Nat):Prop:=∀ x∈l,x<b
theorem pJ {b:Nat} (hb:0<b):∀ {l:List Nat},Dg b l->bv b l<b ^ l.length
 | [],_=>by simp [bv]
 | x::l,h=>by
  have h1:=pJ hb (l:=l) fun y hy=>h y (by simp [hy]);have h2:=h x (by simp);rw [bv,Zbh,Zbr,Zbx (b ^ l.length) b];have h3:b*(bv b l+1)<=b*b ^ l.length:=Zbu b h1;rw [Zbj,Zbm] at h3;omega
def Nm (l:List Nat):Prop:=l.getLast? ≠ some 0
def dg (b:Nat) (z:Nat):List Nat:=if h:z=0\/b<2 then [] else z%b::dg b (z / b)
termination_by z
decreasing_by
 have h1:z≠0:=fun q=>h (.inl q);have h2:¬ b<2:=fun q=>h (.inr q);exact Nat.div_lt_self (Nat.pos_of_ne_zero h1) (by omega)
theorem jN (b:Nat):dg b 0=[]:=by rw [dg];simp
theorem kA {b z:Nat} (hb:2<=b) (hz:z≠0):dg b z=z%b::dg b (z / b):=by
 rw [dg,dif_neg (by omega)]
theorem jU {b:Nat} (hb:2<=b) (z:Nat):bv b (dg b z)=z/\Dg b (dg b z)/\Nm (dg b z):=by
 induction z using Nat.strongRecOn with
 | ind z ih =>
  by_cases hz:z=0
  ·subst hz;rw [jN];exact ⟨rfl,fun x hx=>by simp at hx,by simp [Nm]⟩
  ·obtain ⟨h1,h2,h3⟩:=ih (z / b) (Nat.div_lt_self (Nat.pos_of_ne_zero hz) (by omega));rw [kA hb hz];refine ⟨?_,?_,?_⟩
   ·rw [bv,h1];exact Nat.mod_add_div z b
   ·intro x hx;rcases List.mem_cons.1 hx with rfl | hx
    ·exact Zbb _ (by omega)
    ·exact h2 x hx
   ·unfold Nm at *
    by_cases hd:z / b=0
    ·rw [hd,jN];have:z<b:=by
      rcases Nat.div_eq_zero_iff.1 hd with q | q
      ·omega
      ·exact q
     simp [Zau this];exact hz
    ·rw [kA hb hd] at h3 ⊢;rw [List.getLast?_cons_cons];exact h3
theorem vV {b:Nat} (hb:2<=b):∀ {l:List Nat},Dg b l->Nm l->l=dg b (bv b l)
 | [],_,_=>by rw [bv,jN]
 | x::l,h,hn=>by
  have hx:=h x (by simp);have hl:Dg b l:=fun y hy=>h y (by simp [hy]);have hnl:Nm l:=by
   unfold Nm at *
   cases l with
   | nil=>simp
   | cons y l=>rw [List.getLast?_cons_cons] at hn;exact hn
  have ih:=vV hb hl hnl;have hz:bv b (x::l)≠0:=by
   rw [bv];intro q;have hx0:x=0:=by omega
   have hv:bv b l=0:=by
    have:b*bv b l=0:=by omega
    rcases Nat.mul_eq_zero.1 this with q | q
    ·omega
    ·exact q
   rw [hv,jN] at ih;subst ih;subst hx0;simp [Nm] at hn
  rw [kA hb hz,bv];have e1:(x+b*bv b l)%b=x:=by rw [Nat.add_mul_mod_self_left,Zau hx]
  have e2:(x+b*bv b l) / b=bv b l:=by rw [Nat.add_mul_div_left _ _ (by omega),Nat.div_eq_of_lt hx,Zay]
  rw [e1,e2,<- ih]
theorem zb8 {b x y c:Nat} (hx:x<b) (hy:y<b) (hc:c<=1):(x+y+c) / b<=1:=by
 have:(x+y+c) / b<2:=Nat.div_lt_of_lt_mul (by omega);omega
theorem uZ {b:Nat} {l:List Nat} {i x:Nat} (h:l[i]? = some x):bv b (l.take (i+1))=bv b (l.take i)+b ^ i*x:=by
 have hi:i<l.length:=(List.getElem?_eq_some_iff.1 h).1;rw [Zax,h];show bv b (l.take i++[x])=_;rw [gH,Zaq,Zbo (by omega)]
theorem zvs {U V q r:Nat} (h:U=q*V+r) (hr:r<V):U / V=q/\U%V=r:=by
 have hv:0<V:=by omega
 subst h;refine ⟨?_,?_⟩
 ·rw [Nat.add_comm,Nat.add_mul_div_right _ _ hv,Nat.div_eq_of_lt hr,Zay]
 ·rw [Nat.add_comm,Nat.add_mul_mod_self_right,Zau hr]
end Go.Ev
namespace Go.Ev
open Go Go.Proofs
variable {B:Nat}
set_option maxRecDepth 100000
theorem yL {B:Nat}:vY Tryz.prog B Prop:=zbw mixed
abbrev U (m:Nat):AV:=.int .u64 (m:Int)
def bQ (l:List Nat):AV:=.lst 1 l.length (l.map U)
theorem ztw {z:Int} (h:0<=z/\z<18446744073709551616):IntKind.wrap .u64 z=z:=by
 have e:IntKind.wrap .u64 z=z%18446744073709551616:=by
  unfold IntKind.wrap;first | rfl | simp [IntKind.bits,IntKind.signed] | skip
 rw [e];omega
theorem zol {m:Nat}:IntKind.wrap .u64 (m:Int)=((m%18446744073709551616:Nat):Int):=by
 have e:IntKind.wrap .u64 (m:Int)=(m:Int)%18446744073709551616:=by
  unfold IntKind.wrap;first | rfl | simp [IntKind.bits,IntKind.signed] | skip
 rw [e];omega
theorem zvt {z:Int}:IntKind.wrap .u64 z=z%18446744073709551616:=by
 unfold IntKind.wrap;first | rfl | simp [IntKind.bits,IntKind.signed]
theorem uAdd {a b:Nat} {K:AV->OP}:zh .add .int (U a) (U b) K=K (U ((a+b)%18446744073709551616)):=by
 rw [zs6,show (a:Int)+(b:Int)=((a+b:Nat):Int) by omega,zol]
theorem uMul {a b:Nat} {K:AV->OP}:zh .mul .int (U a) (U b) K=K (U ((a*b)%18446744073709551616)):=by
 rw [zyj,show (a:Int)*(b:Int)=((a*b:Nat):Int) by simp,zol]
theorem uShr {m n:Nat} {k:IntKind} {K:AV->OP} (hn:n<=64):zh .shr .int (U m) (.int k (n:Int)) K=K (U (m / 2 ^ n)):=by
 have e:zh .shr .int (U m) (.int k (n:Int)) K=(bif ilt (n:Int) 0 then Out.no 5 else bn ((m:Int).fdiv (2 ^ (min (n:Int).toNat IntKind.u64.bits))) fun z=>K (.int .u64 z)):=by cases k <;> rfl
 have h0:ilt (n:Int) 0=false:=rfl;rw [e,h0,cond_false,j9];have hb:IntKind.u64.bits=64:=rfl;rw [hb,Int.toNat_natCast,Zbo hn,Int.fdiv_eq_ediv_of_nonneg _ (Int.pow_nonneg (by omega))]
 congr 2
theorem zb9 {m:Nat} {k:IntKind} {K:AV->OP}:zh .shr .int (U m) (.int k 32) K=K (U (m / 4294967296)):=uShr (n:=32) (by omega)
theorem uAnd {m:Nat} {K:AV->OP} (hm:m<18446744073709551616):zh .and .int (U m) (.int .u64 4294967295) K=K (U (m%4294967296)):=by
 have e:zh .and .int (U m) (U 4294967295) K=bn (IntKind.u64.wrap ((BitVec.ofInt 64 (m:Int) &&& BitVec.ofInt 64 ((4294967295:Nat):Int)).toNat:Int)) fun z=>K (.int .u64 z):=rfl;have h1:(BitVec.ofInt 64 (m:Int) &&& BitVec.ofInt 64 ((4294967295:Nat):Int)).toNat=m%4294967296:=by
  rw [BitVec.ofInt_natCast,BitVec.ofInt_natCast,BitVec.toNat_and,BitVec.toNat_ofNat,BitVec.toNat_ofNat,Zau hm];exact Nat.and_two_pow_sub_one_eq_mod m 32
 have e2:zh .and .int (U m) (.int .u64 4294967295) K=zh .and .int (U m) (U 4294967295) K:=rfl;rw [e2,e,j9,h1,ztw (by omega)]
theorem uLss {a b:Nat} {K:AV->OP}:zh .lss .int (U a) (U b) K=K (.bool (decide (a<b))):=by rw [qo];simp only [Int.ofNat_lt]
theorem uLeq {a b:Nat} {K:AV->OP}:zh .leq .int (U a) (U b) K=K (.bool (decide (a<=b))):=by rw [oC];simp only [Int.ofNat_le]
theorem uNeq {a b:Nat} {K:AV->OP}:zh .neq .int (U a) (U b) K=K (.bool (!decide (a=b))):=by rw [fE];simp only [Int.natCast_inj]
theorem uEql {a b:Nat} {K:AV->OP}:zh .eql .int (U a) (U b) K=K (.bool (decide (a=b))):=by rw [fA];simp only [Int.natCast_inj]
theorem ztx {a:Nat} {K:AV->OP}:zh .eql .int (U a) (.int .u64 0) K=K (.bool (decide (a=0))):=uEql (b:=0)
theorem zty {k:IntKind} {z:Int} {m:Nat} {K:AV->OP} (h:z=(m:Int)) (hm:m<18446744073709551616):xS .u64 (.int k z) K=K (U m):=by
 show bn (u3 .u64 z) (fun z=>K (.int .u64 z))=_;rw [j9,q9,ztw (by omega),h]
theorem zvu {k:IntKind} {z:Int} {K:AV->OP} (h : -9223372036854775808<=z/\z<0):xS .u64 (.int k z) K=K (U (z+18446744073709551616).toNat):=by
 show bn (u3 .u64 z) (fun z=>K (.int .u64 z))=_;rw [j9,q9,zvt,show z%18446744073709551616=((z+18446744073709551616).toNat:Int) by omega]
theorem zca {k:IntKind} {z:Int} {K:AV->OP} (h : -9223372036854775808<=z/\z<=9223372036854775807):xS .i64 (.int k z) K=K (I z):=by
 show bn (u3 .i64 z) (fun z=>K (.int .i64 z))=_;rw [j9,q9,uT h]
theorem uNeg {z:Int} {K:AV->OP} (h : -9223372036854775807<=z/\z<=9223372036854775808):sNeg (I z) K=K (I (-z)):=by
 show bn (u3 .i64 (0-z)) (fun z=>K (.int .i64 z))=_;rw [j9,q9,uT (by omega),Int.zero_sub]
theorem zyv {K:AV->OP}:sNeg (I (-9223372036854775808)) K=K (I (-9223372036854775808)):=nr rfl
theorem ztz (l:List Nat):∀ v∈l.map U,ni v=true:=fun v hv=>by obtain ⟨x,_,rfl⟩:=List.mem_map.1 hv;rfl
theorem kV (l:List Nat):ni (bQ l)=true:=pB (ztz l)
theorem uGet {l:List Nat} {i x:Nat} (h:l[i]? = some x):(l.map U)[i]? = some (U x):=by rw [List.getElem?_map,h];rfl
theorem sH {l:List Nat} {K:AV->OP}:sLen (bQ l) K=K (I l.length):=yF ..
theorem uIx {l:List Nat} {i:Nat} {j:Int} {op:AV->OP} (hj:j=(i:Int)) (hi:i<l.length):zT 1 (bQ l) (I j) op=op (.fp ((l.map U).drop (i*1))):=rq hj hi
theorem uLd {l:List Nat} {i x:Nat} {h:T Blk} {op:AV->OP} (hx:l[i]? = some x):zC (.fp ((l.map U).drop (i*1))) h op=op (U x):=ldL (uGet hx)
theorem Hp.zt0 {h0 h:T Blk} {nx id:Pa} {L:List Ob} {l:List AV} (H:Hp h0 h nx (.arr id l::L)):Hp h0 (T.set .no .no id h) nx L:=by
 have hid:T.get .no id h0=.no:=H.off id (by simp [Ob.names]);have H3:=H.drop;have nd:=H.nd;simp only [Zbl,Ob.names] at nd;have hni:id∉L.flatMap Ob.names:=fun hi=>(List.nodup_append.1 nd).2.2 id (by simp) id hi rfl;have other:∀ j,j≠id->T.get .no j (T.set .no .no id h)=T.get .no j h:=fun j hj=>T.jd _ _ _ _ _ hj;refine ⟨fun j hj => ?_,fun y hy => ?_,H3.off,H3.nd,fun j hj => ?_⟩
 ·rw [other j (by rintro rfl;exact hj hid)];exact H.keep j hj
 ·exact (H3.own y hy).congr fun m hm=>other m (by rintro rfl;exact hni (List.mem_flatMap.2 ⟨y,hy,hm⟩))
 ·by_cases e:j=id
  ·subst e;exact T.get_set_same _ _ _ _
  ·rw [other j e];exact H.fr j hj
theorem Hp.letU {h0 h:T Blk} {nx:Pa} {L:List Ob} {id:Pa} {l:List Nat} {n:Nat} (H:Hp h0 h nx (.arr id (l.map U)::L)) (hn:l.length=n):∃ h',u5 h' h/\Hp h0 h' nx L/\af h' h (.sl id 0 n (some n) 1) (bQ l):=by
 subst hn;exact ⟨_,dN,H.zt0,xk.frz (H.own _ (Zal ..)) (T.get_set_same _ _ _ _) (Zag _) (by simp) (ztz l)⟩
theorem zef {x y c:Nat} (hc:c<=1):Pure Tryz.prog B 300 [U x,U y,U c] (· = .tup [U ((x+y+c)%18446744073709551616),U ((x+y+c) / 18446744073709551616)]) :=
 zfz Tryz.func300 (by kernel_rfl) (by kernel_rfl) (by kernel_rfl) (by kernel_rfl) hc
theorem zom {x y b:Nat} (hc:b<=1):Pure Tryz.prog B 301 [U x,U y,U b] (· = .tup [U ((x+18446744073709551616-y-b)%18446744073709551616),U (if x<y+b then 1 else 0)]) :=
 zf0 Tryz.func301 (by kernel_rfl) (by kernel_rfl) (by kernel_rfl) (by kernel_rfl) hc
theorem zon {a b:Nat} (ha:a<18446744073709551616) (hb:b<18446744073709551616):Pure Tryz.prog B 263 [U a,U b] (· = .tup [U (a*b / 18446744073709551616),U (a*b%18446744073709551616)]):=by
 intro p h nx K hK;refine zM zP yL 10 fun hf => ?_;rw [uo.go,uo.t23,zA,uo.gq,zA,uo.jv,uAnd ha,zA,uo.uq,zb9,zA,uo.vk,uAnd hb,zA,uo.cu,zb9];have ha0:a%4294967296<4294967296:=by omega
 have ha1:a / 4294967296<4294967296:=by omega
 have hb0:b%4294967296<4294967296:=by omega
 have hb1:b / 4294967296<4294967296:=by omega
 have ea:a=a / 4294967296*4294967296+a%4294967296:=by omega
 have eb:b=b / 4294967296*4294967296+b%4294967296:=by omega
 generalize a / 4294967296=a1 at *
 generalize a%4294967296=a0 at *
 generalize b / 4294967296=b1 at *
 generalize b%4294967296=b0 at *
 have m00:a0*b0<=4294967295*4294967295:=Zav (by omega) (by omega);have m10:a1*b0<=4294967295*4294967295:=Zav (by omega) (by omega);have m01:a0*b1<=4294967295*4294967295:=Zav (by omega) (by omega);have m11:a1*b1<=4294967295*4294967295:=Zav (by omega) (by omega);have hp:a*b=a1*b1*18446744073709551616+(a1*b0+a0*b1)*4294967296+a0*b0:=by
  rw [ea,eb];simp only [Zaw,Zbj];have e1:a1*4294967296*(b1*4294967296)=a1*b1*18446744073709551616:=by
   rw [Nat.mul_mul_mul_comm]
  have e2:a1*4294967296*b0=a1*b0*4294967296:=by rw [Nat.mul_right_comm]
  have e3:a0*(b1*4294967296)=a0*b1*4294967296:=by rw [Zbi]
  rw [e1,e2,e3];omega
 rw [zA,uo.fZ,uMul,Zau (show a0*b0<18446744073709551616 by omega),zA,uo.pq,uMul,Zau (show a1*b0<18446744073709551616 by omega),zb9,uAdd,Zau (show a1*b0+a0*b0 / 4294967296<18446744073709551616 by omega),zA,uo.vz,uAnd (by omega),zA,uo.dw,zb9,zA,uo.fC,uMul,Zau (show a0*b1<18446744073709551616 by omega),uAdd,zA,uo.dh,uMul,Zau (show a1*b1<18446744073709551616 by omega),uAdd,zb9,uAdd,zA,uo.xu,uMul];simp only [zF,zL];rw [uo.ret];refine hK _ ?_ hf;rw [hp]
 generalize a0*b0=p00 at *
 generalize a1*b0=p10 at *
 generalize a0*b1=p01 at *
 generalize a1*b1=p11 at *
 congr 3
 congr 1
 omega
theorem zeg {z:Int} (h : -9223372036854775808<=z/\z<=9223372036854775807):Pure Tryz.prog B 264 [I z] (· = U z.natAbs):=by
 refine zS fun hh nx K H0 hK=>zM zP yL 100 fun hf => ?_;have ret:∀ {m:Nat},m=z.natAbs->K (U m) hh nx=.ok True:=fun e=>hK _ _ _ _ _ H0 (zK rfl) (by rw [e]);rw [bC.go,bC.t9,zA,bC.gq,zA,zA,bC.jv,qo,zB,bC.v2];by_cases c:z<0
 ·rw [decide_eq_true c,zG,zA,bC.uq];by_cases d:z = -9223372036854775808
  ·subst d;rw [zyv,zvu (by omega)];simp only [zF,zL];rw [bC.ret];exact ret (by decide)
  ·rw [uNeg (by omega),zty (m:=z.natAbs) (by omega) (by omega)];simp only [zF,zL];rw [bC.ret];exact ret rfl
 ·rw [decide_eq_false c,zE,zD,zA,bC.pq,zty (m:=z.natAbs) (by omega) (by omega)];simp only [zF,zL];rw [bC.ret];exact ret rfl
theorem zoo {l:List Nat} {i:Nat} {op:AV->OP} (hl:1<=l.length) (hi:i<=l.length):dH 1 (bQ l) none (some (I (i:Int))) none op=op (bQ (l.take i)):=by
 show (bif Nat.beq 1 1&&Nat.ble 1 l.length then (match bnd (some (I (i:Int))) l.length l.length with | none=>Out.no 17 | some h=>match bnd none h 0 with | none=>.no 17 | some q=>op (.lst 1 (h-q) (((l.map U).drop (q*1)).take ((h-q)*1)))) else .no 17)=_;rw [Zab hl];have:bnd (some (I (i:Int))) l.length l.length=some i:=by
  show (bif Nat.ble i l.length then some i else none)=_;rw [Zab hi];rfl
 rw [this];show op (.lst 1 (i-0) (((l.map U).drop (0*1)).take ((i-0)*1)))=_;unfold bQ;rw [Zaq,Zbo hi,List.map_take];simp
theorem zi8 {l:List Nat} {k x:Nat} (h:l[k]? = some x) (hx:x≠0):Nm (l.take (k+1)):=by
 unfold Nm;rw [Zax,h];show (l.take k++[x]).getLast? ≠ _;rw [List.getLast?_concat];intro q;cases q;exact hx rfl
theorem Dg.take {b n:Nat} {l:List Nat} (h:Dg b l):Dg b (l.take n):=fun x hx=>h x (List.mem_of_mem_take hx)
theorem zeh {l:List Nat} (hd:Dg 18446744073709551616 l) (hl1:1<=l.length) (hl:l.length<=1000000):Pure Tryz.prog B 289 [bQ l] (· = bQ (dg 18446744073709551616 (bv 18446744073709551616 l))):=by
 refine zS fun h nx K H0 hK=>zM zP yL 1000010 fun hf => ?_;rw [ku.go,ku.t14,zA,ku.gq,zA,ku.jv,sH,zA,zI];refine ku.t8_L (fun m x2 h' nx'=>x2=I (m:Int)/\m<=l.length/\bv 18446744073709551616 (l.take m)=bv 18446744073709551616 l/\Hp h h' nx' []) (m:=l.length) (by omega) ⟨rfl,by omega,by rw [List.take_length],H0⟩ ?_;rintro m z2 z3 h3 nx3 R ⟨rfl,hm,hb,H3⟩ hR;have fin:Nm (l.take m)->K (bQ (l.take m)) h3 nx3=.ok True:=fun hn=>hK _ _ _ _ _ H3 (zK (kV _)) (by rw [<- hb,<- vV (by decide) hd.take hn]);rw [ku.t7,zA,zA,ku.uq,ku.oL,ku.oM,bZ];cases m with
 | zero =>
  rw [decide_eq_false (by omega)];simp only [jL];rw [ku.r2_1,ku.zal];simp only [jL,zY];rw [zB,ku.v3,zE,zZ,yG,zA,ku.dh,zoo hl1 hm];simp only [zF,zL];rw [ku.ret];exact fin (by simp [Nm])
 | succ k =>
  have e:l[k]? = some (l.getD k 0):=by rw [Zad,List.getElem?_eq_getElem (show k<l.length by omega)];rfl
  rw [decide_eq_true (by omega)];simp only [yX];rw [fF (by omega),show ((k+1:Nat):Int)-1=((k:Nat):Int) by omega,uIx (i:=k) rfl (by omega),uLd e,ku.r2_1,ku.zal,yX,ztx,zV,zB,ku.v3];by_cases d:l.getD k 0=0
  ·rw [decide_eq_true d,zG,zD,zI,ku.fZ,fF (by omega)];refine hR k _ _ _ _ (by omega) ⟨by congr 1;omega,by omega,?_,H3⟩;rw [uZ e,d] at hb;simpa using hb
  ·rw [decide_eq_false d,zE,zZ,yG,zA,ku.dh,zoo hl1 hm];simp only [zF,zL];rw [ku.ret];exact fin (zi8 e d)
def cmpT (a b:List Nat):Nat->Int
 | 0=>0
 | k+1=>if a.getD k 0=b.getD k 0 then cmpT a b k else if a.getD k 0<b.getD k 0 then -1 else 1
def oG (a b:List Nat):Int:=if a.length≠b.length then (if a.length<b.length then -1 else 1) else cmpT a b a.length
theorem getD_some {l:List Nat} {k:Nat} (h:k<l.length):l[k]? = some (l.getD k 0):=by rw [Zad,List.getElem?_eq_getElem h];rfl
theorem jP {b:Nat} {l:List Nat} {k:Nat} (hb:0<b) (h:Dg b l):l.getD k 0<b:=by
 by_cases c:k<l.length
 ·exact h _ (Zaa (getD_some c))
 ·rw [Zad,List.getElem?_eq_none (by omega)];exact hb
theorem zdf {b:Nat} {x y:List Nat} (hb:0<b) (hx:Dg b x) (hy:Dg b y):∀ {k:Nat},k<=x.length->k<=y.length->cmpT x y k=(if bv b (x.take k)<bv b (y.take k) then -1 else if bv b (y.take k)<bv b (x.take k) then 1 else 0)
 | 0,_,_=>by simp [cmpT,bv]
 | k+1,h1,h2=>by
  have e1:=getD_some (l:=x) (k:=k) (by omega);have e2:=getD_some (l:=y) (k:=k) (by omega);have l1:=pJ hb (hx.take (n:=k));have l2:=pJ hb (hy.take (n:=k));rw [Zaq,Zbo (by omega)] at l1 l2;rw [cmpT,uZ e1,uZ e2,zdf hb hx hy (by omega) (by omega)]
  generalize bv b (x.take k)=X at *
  generalize bv b (y.take k)=Y at *
  generalize x.getD k 0=u at *
  generalize y.getD k 0=v at *
  generalize b ^ k=P at *
  by_cases c:u=v
  ·rw [if_pos c,c];simp only [Nat.add_lt_add_iff_right]
  ·rw [if_neg c];by_cases d:u<v
   ·have q:P*(u+1)<=P*v:=Zbu P d;rw [Zbj,Zbm] at q;have q1:X+P*u<Y+P*v:=by omega
    rw [if_pos d,if_pos q1]
   ·have q:P*(v+1)<=P*u:=Zbu P (by omega);rw [Zbj,Zbm] at q;have q1:Y+P*v<X+P*u:=by omega
    have q2:¬ X+P*u<Y+P*v:=by omega
    rw [if_neg d,if_neg q2,if_pos q1]
theorem kB {b z n:Nat} (hb:2<=b) (h:z<b ^ n):(dg b z).length<=n:=by
 induction n generalizing z with
 | zero=>rw [show z=0 by simp at h;exact h,jN];simp
 | succ n ih =>
  by_cases hz:z=0
  ·rw [hz,jN];simp
  ·rw [kA hb hz,Zbh];have:=ih (z:=z / b) (by rw [Nat.div_lt_iff_lt_mul (by omega),<- Zbr];exact h);omega
theorem kK {b y z:Nat} (hb:2<=b) (h:(dg b y).length<(dg b z).length):y<z:=by
 rcases Nat.lt_or_ge y z with q | q
 ·exact q
 ·exfalso
  have h1:=kB hb (z:=z) (n:=(dg b y).length) (Nat.lt_of_le_of_lt q (by
   have:=pJ (b:=b) (by omega) (jU hb y).2.1
   rwa [(jU hb y).1] at this))
  omega
def cmpN (a b:Nat):Int:=if a<b then -1 else if b<a then 1 else 0
theorem zei {b x y:Nat} (hb:2<=b):oG (dg b x) (dg b y)=cmpN x y:=by
 unfold oG cmpN;by_cases c:(dg b x).length=(dg b y).length
 ·rw [if_neg (by simpa using c),zdf (by omega) (jU hb x).2.1 (jU hb y).2.1 (Zag _) (by omega),List.take_length,c,List.take_length,(jU hb x).1,(jU hb y).1]
 ·rw [if_pos c];by_cases d:(dg b x).length<(dg b y).length
  ·rw [if_pos d,if_pos (kK hb d)]
  ·have:=kK hb (y:=y) (z:=x) (by omega);rw [if_neg d,if_neg (by omega),if_pos this]
theorem zh5 {a b:List Nat} (ha:a.length<=1000000) (hb:b.length<=1000000):Pure Tryz.prog B 261 [bQ a,bQ b] (· = I (oG a b)):=by
 refine zS fun h nx K H0 hK=>zM zP yL 1000010 fun hf' => ?_;have ret:∀ {h1 nx1 L} {z:Int},Hp h h1 nx1 L->z=oG a b->K (I z) h1 nx1=.ok True:=fun H e=>hK _ _ _ _ _ H (zK rfl) (by rw [e]);rw [jk.go,jk.t38,zA,jk.gq,zA,zA,jk.jv,sH,sH,fE,zB,jk.v4];by_cases c:a.length=b.length
 case neg =>
  rw [decide_eq_false (by omega),Zak,zG,zA,zA,jk.uq,sH,sH,qo,zB,jk.v5];by_cases d:a.length<b.length
  ·rw [decide_eq_true (by omega),zG,zA,jk.vk];simp only [zF,zL];rw [jk.ret];exact ret H0 (by rw [oG,if_pos c,if_pos d])
  ·rw [decide_eq_false (by omega),zE,zD,zA,jk.vz];simp only [zF,zL];rw [jk.ret];exact ret H0 (by rw [oG,if_pos c,if_neg d])
 rw [decide_eq_true (by omega),Zah,zE,zD,zA,zA,jk.bT,sH,fF (by omega),zI];refine jk.zew (fun m x3 h' nx'=>∃ k:Nat,x3=I ((k:Int)-1)/\m=k/\k<=a.length/\cmpT a b k=cmpT a b a.length/\Hp h h' nx' []) (m:=a.length) (by omega) ⟨a.length,rfl,rfl,by omega,rfl,H0⟩ ?_;rintro m z2 z3 z6 z7 z8 h3 nx3 R ⟨k,rfl,rfl,hk,hc,H3⟩ hR;rw [jk.t30,zA,zA,jk.fD,eH];cases m with
 | zero =>
  rw [decide_eq_false (by omega),zB,jk.v6,zE,zZ,yG,zA,jk.zex];simp only [zF,zL];rw [jk.ret];exact ret H3 (by rw [oG,if_neg (fun q=>q c),<- hc];rfl)
 | succ k =>
  have ea:=getD_some (l:=a) (k:=k) (by omega);have eb:=getD_some (l:=b) (k:=k) (by omega);rw [cmpT] at hc;rw [decide_eq_true (by omega),zB,jk.v6,zG,zD,zA,zI,zA,jk.sZ,uIx (i:=k) (by omega) (by omega),uLd ea,uIx (i:=k) (by omega) (by omega),uLd eb,uNeq,zB,jk.v7];by_cases d:a.getD k 0=b.getD k 0
  ·rw [if_pos d] at hc;rw [decide_eq_true d,Zah,zE,zD,jk.zae,fF (by omega)];exact hR k _ _ _ _ _ _ _ (by omega) ⟨k,by congr 1;omega,rfl,by omega,hc,H3⟩
  ·rw [if_neg d] at hc;rw [decide_eq_false d,Zak,zG,zA,zA,jk.rF,uIx (i:=k) (by omega) (by omega),uLd ea,uIx (i:=k) (by omega) (by omega),uLd eb,uLss,zB,jk.v8];by_cases e:a.getD k 0<b.getD k 0
   ·rw [if_pos e] at hc;rw [decide_eq_true e,zG,zA,jk.aT];simp only [zF,jJ,zL];rw [jk.ret];exact ret H3 (by rw [oG,if_neg (fun q=>q c),<- hc])
   ·rw [if_neg e] at hc;rw [decide_eq_false e,zE,zD,zA,jk.tu];simp only [zF,jJ,zL];rw [jk.ret];exact ret H3 (by rw [oG,if_neg (fun q=>q c),<- hc])
def Sz (z:Nat):Prop:=(dg 18446744073709551616 z).length<=100000
theorem zvv {x y:Nat} (hx:Sz x) (hy:Sz y):Pure Tryz.prog B 261 [bQ (dg 18446744073709551616 x),bQ (dg 18446744073709551616 y)] (· = I (cmpN x y)):=by
 rw [<- zei (b:=18446744073709551616) (by decide)];unfold Sz at hx hy;exact zh5 (by omega) (by omega)
theorem kD {α:Type} {A C:List α} {x y:α} {i:Nat} (h:A.length=i):(A++x::C).set i y=A++y::C:=by
 subst h;rw [List.set_append_right _ _ (Zag _),Nat.sub_self];rfl
theorem zq7 (n:Nat):List.replicate n (U 0)=(List.replicate n 0).map U:=by rw [List.map_replicate]
theorem zop (b n:Nat):bv b (List.replicate n 0)=0:=by
 induction n with
 | zero=>rfl
 | succ n ih=>rw [Zce,bv,ih];simp
theorem Dg.append {b:Nat} {l m:List Nat} (h1:Dg b l) (h2:Dg b m):Dg b (l++m):=fun x hx=>by
 rcases List.mem_append.1 hx with q | q
 ·exact h1 x q
 ·exact h2 x q
theorem Dg.one {b x:Nat} (h:x<b):Dg b [x]:=fun y hy=>by rw [List.mem_singleton.1 hy];exact h
theorem Dg.rep {b n:Nat} (h:0<b):Dg b (List.replicate n 0):=fun x hx=>by rw [(List.mem_replicate.1 hx).2];exact h
theorem yK {b:Nat} {l:List Nat} {i:Nat}:bv b (l.take (i+1))=bv b (l.take i)+b ^ i*l.getD i 0:=by
 by_cases c:i<l.length
 ·exact uZ (getD_some c)
 ·rw [Zae (by omega),Zae (by omega),Zad,List.getElem?_eq_none (by omega)];simp
theorem zcb {P b X Y x y c Z:Nat} (h:Z+P*c=X+Y):(Z+P*((x+y+c)%b))+P*b*((x+y+c) / b)=(X+P*x)+(Y+P*y):=by
 have e:P*((x+y+c)%b)+P*b*((x+y+c) / b)=P*(x+y+c):=by rw [Zbi,<- Zbj,Nat.mod_add_div]
 have e2:P*(x+y+c)=P*x+P*y+P*c:=by rw [Zbj,Zbj]
 omega
theorem sMk1 {n:Nat} {x:Int} {h0 h:T Blk} {nx:Pa} {L:List Ob} {K:Kw Prop} (H:Hp h0 h nx L) (hx:x=(n:Int)) (hn:n<=1000000)
  (hK:∀ id h' nx',Hp h0 h' nx' (.arr id ((List.replicate n 0).map U)::L)->K (.sl id 0 n (some n) 1) h' nx'=.ok True):uG 1 8 [(.int .u64 0)] (I x) (I x) h nx K=.ok True :=
 H.mk1 n hx hx hn (by omega) fun id h' nx' H'=>hK id h' nx' (by rw [<- zq7];exact H')
theorem zi9 {x y:List Nat} (hx:Dg 18446744073709551616 x) (hy:Dg 18446744073709551616 y) (lx:x.length<=100000) (hxy:y.length<=x.length) {h0:T Blk} {K:Kw Prop} {h:T Blk} {nx:Pa} {x2 x3 x4 x5 x6 x7 x8 x9 x10 x11:AV} (H0:Hp h0 h nx [])
  (hK:∀ (v:AV) (h':T Blk) (nx':Pa) (L:List Ob) (v':AV),Hp h0 h' nx' L->af h0 h' v v'->v'=bQ (dg 18446744073709551616 (bv 18446744073709551616 x+bv 18446744073709551616 y))->K v h' nx'=.ok True) :
  IR.run zy.t34 (CS Tryz.prog B) 1000010 (fnO zy.res K) (yw zy.res K) (zy.fr (bQ x) (bQ y) x2 x3 x4 x5 x6 x7 x8 x9 x10 x11) h nx=.ok True:=by
 rw [zy.t34,zA,zy.fZ,sH,qc (by omega)];refine sMk1 (n:=x.length+1) H0 (by omega) (by omega) fun id h1 nx1 H1 => ?_;rw [zA,zy.pq,zA,zA,zy.vz,sH,zI];refine zy.zwx (fun m x4 x9 h' nx'=>∃ (i c:Nat) (Z:List Nat),x4=U c/\x9=I (i:Int)/\m+i=x.length/\Z.length=i/\Dg 18446744073709551616 Z/\c<=1/\bv 18446744073709551616 Z+18446744073709551616 ^ i*c=bv 18446744073709551616 (x.take i)+bv 18446744073709551616 (y.take i)/\Hp h0 h' nx' [.arr id ((Z++List.replicate (m+1) 0).map U)]) (m:=x.length) (by omega) ⟨0,0,[],rfl,rfl,rfl,rfl,fun _ h=>by simp at h,by omega,by simp [bv],H1⟩ ?_;rintro m z4 z5 z6 z9 z10 z11 h3 nx3 R ⟨i,c,Z,rfl,rfl,hm,hZ,hd,hc,hs,H3⟩ hR;rw [zy.t24,zA,zy.dw,qo];by_cases ci:i<x.length
 case neg =>
  have hm0:m=0:=by omega
  subst hm0;rw [decide_eq_false (by omega),zA,zB,zy.v10,zE,zZ,yG,zA,zy.zae,sH,sIx (i:=x.length) (by omega) (by omega)];refine H3.store (k:=0) rfl (by simp;omega) rfl fun h4 H4 => ?_;rw [zA,zy.zle];have e:((Z++List.replicate (0+1) 0).map U).set x.length (U c)=(Z++[c]).map U:=by
   rw [Zaj,Zaj];exact kD (by rw [Zao];omega)
  simp only [List.set_cons_zero] at H4;rw [e] at H4;have hl:(Z++[c]).length=x.length+1:=by simp;omega
  have hcW:c<18446744073709551616:=by omega
  obtain ⟨h5,hkp,H5,hF⟩:=H4.letU hl;refine xK hkp (.cons hF .nil) ?_;refine zeh (hd.append (Dg.one hcW)) (by omega) (by omega) _ _ _ _ ?_;rintro _ rfl _;simp only [zF,zL];rw [zy.ret];refine hK _ _ _ _ _ H5 (zK (kV _)) ?_;rw [gH,hZ];rw [hs,Zae (by omega),Zae (by omega)]
 have ex:=getD_some (l:=x) (k:=i) ci;rw [decide_eq_true (by omega),zA,zB,zy.v10,zG,zD,zA,zI,zA,zy.dh,zA,zy.xu,zA,zA,zy.bT,sH,qo,zB,zy.v11];by_cases cj:i<y.length
 ·rw [decide_eq_true (by omega),zG,zy.fD,uIx (i:=i) rfl cj,uLd (getD_some cj)];rw [zy.sZ,zy.aJ,zy.eU,uIx (i:=i) rfl ci,uLd ex,zy.zaj,zy.eX];refine zef hc _ _ _ _ ?_;rintro _ rfl _;rw [zy.zn0,zy.zik,jC,jB,sIx (i:=i) rfl (by omega)];refine H3.store (k:=0) rfl (by simp;omega) rfl fun h4 H4 => ?_;rw [zy.znz,zy.zil,zy.oK,qc (by omega)];refine hR (m-1) _ _ _ _ _ _ _ _ (by omega) ⟨i+1,(x.getD i 0+y.getD i 0+c) / 18446744073709551616,Z++[(x.getD i 0+y.getD i 0+c)%18446744073709551616],rfl,by congr 1,by omega,by simp;omega,hd.append (Dg.one (Zbb _ (by decide))),?_,?_,?_⟩
  ·exact zb8 (jP (by decide) hx) (jP (by decide) hy) hc
  ·rw [gH,hZ,yK,yK,Zbr];exact zcb hs
  ·have e:((Z++List.replicate (m+1) 0).map U).set i (U ((x.getD i 0+y.getD i 0+c)%18446744073709551616))=((Z++[(x.getD i 0+y.getD i 0+c)%18446744073709551616])++List.replicate (m-1+1) 0).map U:=by
    rw [Zaj,Zce,Zcc,kD (by rw [Zao];omega),Zaj,Zaj,Zar,show m-1+1=m by omega];rfl
   rw [<- e];exact H4
 ·have e0:y.getD i 0=0:=by rw [Zad,List.getElem?_eq_none (by omega)];rfl
  rw [decide_eq_false (by omega),zE,zD,show AV.int .u64 0=U (y.getD i 0) by rw [e0];rfl];rw [zy.sZ,zy.aJ,zy.eU,uIx (i:=i) rfl ci,uLd ex,zy.zaj,zy.eX];refine zef hc _ _ _ _ ?_;rintro _ rfl _;rw [zy.zn0,zy.zik,jC,jB,sIx (i:=i) rfl (by omega)];refine H3.store (k:=0) rfl (by simp;omega) rfl fun h4 H4 => ?_;rw [zy.znz,zy.zil,zy.oK,qc (by omega)];refine hR (m-1) _ _ _ _ _ _ _ _ (by omega) ⟨i+1,(x.getD i 0+y.getD i 0+c) / 18446744073709551616,Z++[(x.getD i 0+y.getD i 0+c)%18446744073709551616],rfl,by congr 1,by omega,by simp;omega,hd.append (Dg.one (Zbb _ (by decide))),?_,?_,?_⟩
  ·exact zb8 (jP (by decide) hx) (jP (by decide) hy) hc
  ·rw [gH,hZ,yK,yK,Zbr];exact zcb hs
  ·have e:((Z++List.replicate (m+1) 0).map U).set i (U ((x.getD i 0+y.getD i 0+c)%18446744073709551616))=((Z++[(x.getD i 0+y.getD i 0+c)%18446744073709551616])++List.replicate (m-1+1) 0).map U:=by
    rw [Zaj,Zce,Zcc,kD (by rw [Zao];omega),Zaj,Zaj,Zar,show m-1+1=m by omega];rfl
   rw [<- e];exact H4
theorem zvw {x y:List Nat} (hx:Dg 18446744073709551616 x) (hy:Dg 18446744073709551616 y) (lx:x.length<=100000) (ly:y.length<=100000):Pure Tryz.prog B 260 [bQ x,bQ y] (· = bQ (dg 18446744073709551616 (bv 18446744073709551616 x+bv 18446744073709551616 y))):=by
 refine zS fun h nx K H0 hK=>zM zP yL 1000010 fun hf => ?_;rw [zy.go,zy.t36,zA,zy.gq,zA,zA,zy.jv,sH,sH,qo,zB,zy.v7];by_cases c:x.length<y.length
 ·rw [decide_eq_true (by omega),zG,zy.uq];exact zi9 hy hx ly (by omega) H0 fun v h' nx' L v' a b e=>hK v h' nx' L v' a b (by rw [e,Nat.add_comm])
 ·rw [decide_eq_false (by omega),zE,zD];exact zi9 hx hy lx (by omega) H0 hK
theorem mB {P b X Y x y c Z:Nat} (hx:x<b) (hy:y<b) (hc:c<=1) (h:Z+Y=X+P*c) (hb:1<=b) :
  (Z+P*((x+b-y-c)%b))+(Y+P*y)=(X+P*x)+P*b*(if x<y+c then 1 else 0):=by
 have q:(x+b-y-c)%b+y+c=x+b*(if x<y+c then 1 else 0):=by
  by_cases d:x<y+c
  ·rw [if_pos d,Zau (by omega)];omega
  ·rw [if_neg d,show x+b-y-c=(x-y-c)+b by omega,Nat.add_mod_right,Zau (by omega)];omega
 have e:=congrArg (P * ·) q;simp only [Zbj] at e;rw [Zbi P b];omega
theorem zvx {x y:List Nat} (hx:Dg 18446744073709551616 x) (hy:Dg 18446744073709551616 y) (l1:1<=x.length) (lx:x.length<=100000) (ly:y.length<=x.length) (hv:bv 18446744073709551616 y<=bv 18446744073709551616 x):Pure Tryz.prog B 262 [bQ x,bQ y] (· = bQ (dg 18446744073709551616 (bv 18446744073709551616 x-bv 18446744073709551616 y))):=by
 refine zS fun h nx K H0 hK=>zM zP yL 1000010 fun hf => ?_;rw [yu.go,yu.t29,zA,yu.gq,zA,yu.jv,sH];refine sMk1 (n:=x.length) H0 rfl (by omega) fun id h1 nx1 H1 => ?_;rw [zA,yu.uq,zA,zA,yu.vk,sH,zI];refine yu.zlj (fun m x4 x8 h' nx'=>∃ (i c:Nat) (Z:List Nat),x4=U c/\x8=I (i:Int)/\m+i=x.length/\Z.length=i/\Dg 18446744073709551616 Z/\c<=1/\bv 18446744073709551616 Z+bv 18446744073709551616 (y.take i)=bv 18446744073709551616 (x.take i)+18446744073709551616 ^ i*c/\Hp h h' nx' [.arr id ((Z++List.replicate m 0).map U)]) (m:=x.length) (by omega) ⟨0,0,[],rfl,rfl,rfl,rfl,fun _ h=>by simp at h,by omega,by simp [bv],H1⟩ ?_;rintro m z4 z5 z6 z8 z9 z10 h3 nx3 R ⟨i,c,Z,rfl,rfl,hm,hZ,hd,hc,hs,H3⟩ hR;rw [yu.t20,zA,yu.cu,qo];by_cases ci:i<x.length
 case neg =>
  have hm0:m=0:=by omega
  subst hm0;rw [decide_eq_false (by omega),zA,zB,yu.v9,zE,zZ,yG,zA,yu.aj];simp only [List.replicate_zero,Zbd] at H3;obtain ⟨h5,hkp,H5,hF⟩:=H3.letU (n:=x.length) (by omega);refine xK hkp (.cons hF .nil) ?_;refine zeh hd (by omega) (by omega) _ _ _ _ ?_;rintro _ rfl _;simp only [zF,zL];rw [yu.ret];refine hK _ _ _ _ _ H5 (zK (kV _)) ?_;rw [Zae (by omega),Zae (by omega)] at hs;have hlt:=pJ (b:=18446744073709551616) (by decide) hd;rw [hZ] at hlt;have c0:c=0:=by
   rcases Nat.eq_zero_or_pos c with q | q
   ·exact q
   ·have:18446744073709551616 ^ i*1<=18446744073709551616 ^ i*c:=Zbu _ q;omega
  subst c0
  congr 2
  omega
 have ex:=getD_some (l:=x) (k:=i) ci;rw [decide_eq_true (by omega),zA,zB,yu.v9,zG,zD,zA,zI,zA,yu.pq,zA,yu.vz,zA,zA,yu.dw,sH,qo,zB,yu.v10];by_cases cj:i<y.length
 ·rw [decide_eq_true (by omega),zG,yu.fC,uIx (i:=i) rfl cj,uLd (getD_some cj)];rw [yu.bT,yu.r9_0,yu.zlf,uIx (i:=i) rfl ci,uLd ex,yu.r9_1,yu.zlg];refine zom hc _ _ _ _ ?_;rintro _ rfl _;rw [yu.r9_2,yu.zlh,jC,jB,sIx (i:=i) rfl (by omega)];refine H3.store (k:=0) rfl (by simp;omega) rfl fun h4 H4 => ?_;rw [yu.r9_3,yu.zli,yu.rF,qc (by omega)];refine hR (m-1) _ _ _ _ _ _ _ _ (by omega) ⟨i+1,if x.getD i 0<y.getD i 0+c then 1 else 0,Z++[(x.getD i 0+18446744073709551616-y.getD i 0-c)%18446744073709551616],rfl,by congr 1,by omega,by simp;omega,hd.append (Dg.one (Zbb _ (by decide))),?_,?_,?_⟩
  ·split <;> omega
  ·rw [gH,hZ,yK,yK,Zbr];exact mB (jP (by decide) hx) (jP (by decide) hy) hc hs (by decide)
  ·have e:((Z++List.replicate m 0).map U).set i (U ((x.getD i 0+18446744073709551616-y.getD i 0-c)%18446744073709551616))=((Z++[(x.getD i 0+18446744073709551616-y.getD i 0-c)%18446744073709551616])++List.replicate (m-1) 0).map U:=by
    obtain ⟨k,rfl⟩:∃ k,m=k+1:=⟨m-1,by omega⟩;rw [Zaj,Zce,Zcc,kD (by rw [Zao];omega),Zaj,Zaj,Zar];rfl
   rw [<- e];exact H4
 ·have e0:y.getD i 0=0:=by rw [Zad,List.getElem?_eq_none (by omega)];rfl
  rw [decide_eq_false (by omega),zE,zD,show AV.int .u64 0=U (y.getD i 0) by rw [e0];rfl];rw [yu.bT,yu.r9_0,yu.zlf,uIx (i:=i) rfl ci,uLd ex,yu.r9_1,yu.zlg];refine zom hc _ _ _ _ ?_;rintro _ rfl _;rw [yu.r9_2,yu.zlh,jC,jB,sIx (i:=i) rfl (by omega)];refine H3.store (k:=0) rfl (by simp;omega) rfl fun h4 H4 => ?_;rw [yu.r9_3,yu.zli,yu.rF,qc (by omega)];refine hR (m-1) _ _ _ _ _ _ _ _ (by omega) ⟨i+1,if x.getD i 0<y.getD i 0+c then 1 else 0,Z++[(x.getD i 0+18446744073709551616-y.getD i 0-c)%18446744073709551616],rfl,by congr 1,by omega,by simp;omega,hd.append (Dg.one (Zbb _ (by decide))),?_,?_,?_⟩
  ·split <;> omega
  ·rw [gH,hZ,yK,yK,Zbr];exact mB (jP (by decide) hx) (jP (by decide) hy) hc hs (by decide)
  ·have e:((Z++List.replicate m 0).map U).set i (U ((x.getD i 0+18446744073709551616-y.getD i 0-c)%18446744073709551616))=((Z++[(x.getD i 0+18446744073709551616-y.getD i 0-c)%18446744073709551616])++List.replicate (m-1) 0).map U:=by
    obtain ⟨k,rfl⟩:∃ k,m=k+1:=⟨m-1,by omega⟩;rw [Zaj,Zce,Zcc,kD (by rw [Zao];omega),Zaj,Zaj,Zar];rfl
   rw [<- e];exact H4
theorem zf8 {N P Q b p z c X Y y x:Nat} (h:N+P*Q*c=X+P*(x*Y)) (hp:p=x*y) :
  (N+P*Q*((p+z+c)%b))+P*(Q*b)*((p+z+c) / b)=(X+P*Q*z)+P*(x*(Y+Q*y)):=by
 have e:P*Q*((p+z+c)%b)+P*(Q*b)*((p+z+c) / b)=P*Q*(p+z+c):=by
  rw [<- Zbi P Q b,Zbi (P*Q) b,<- Zbj,Nat.mod_add_div]
 have e2:P*Q*(p+z+c)=P*Q*p+P*Q*z+P*Q*c:=by rw [Zbj,Zbj]
 have e3:P*(x*(Y+Q*y))=P*(x*Y)+P*Q*p:=by
  rw [hp,Zbj,Zbj,<- Zbi x Q y,Zbx x Q,Zbi Q x y,<- Zbi P Q]
 omega
theorem zvy {a b:List Nat} (ha:Dg 18446744073709551616 a) (hb:Dg 18446744073709551616 b) (l1:1<=a.length+b.length) (la:a.length<=100000) (lb:b.length<=100000):Pure Tryz.prog B 265 [bQ a,bQ b] (· = bQ (dg 18446744073709551616 (bv 18446744073709551616 a*bv 18446744073709551616 b))):=by
 refine zS fun h nx K H0 hK=>zM zP yL 1000010 fun hf => ?_;rw [zx.go,zx.t47,zA,zx.gq,zA,zx.jv,sH,sH,qc (by omega)];refine sMk1 (n:=a.length+b.length) H0 (by omega) (by omega) fun id h1 nx1 H1 => ?_;rw [zA,zA,zx.uq,sH,zI];refine zx.zw0 (fun m x14 h' nx'=>∃ (i:Nat) (Z:List Nat),x14=I (i:Int)/\m+i=a.length/\Z.length=i+b.length/\Dg 18446744073709551616 Z/\bv 18446744073709551616 Z=bv 18446744073709551616 (a.take i)*bv 18446744073709551616 b/\Hp h h' nx' [.arr id ((Z++List.replicate m 0).map U)]) (m:=a.length) (by omega) ⟨0,List.replicate b.length 0,rfl,rfl,by simp,Dg.rep (by decide),by rw [zop];simp [bv],by rw [List.replicate_append_replicate,Nat.add_comm];exact H1⟩ ?_;rintro m z4 z5 z6 z7 z8 z9 z10 z11 z14 z15 z16 z17 z18 z19 h3 nx3 R ⟨i,Z,rfl,hm,hZ,hd,hs,H3⟩ hR;rw [zx.t39,zA,zx.vk,qo];by_cases ci:i<a.length
 case neg =>
  have hm0:m=0:=by omega
  subst hm0;rw [decide_eq_false (by omega),zA,zB,zx.v15,zE,zZ,yG,zA,zx.zw1];simp only [List.replicate_zero,Zbd] at H3;obtain ⟨h5,hkp,H5,hF⟩:=H3.letU (n:=a.length+b.length) (by omega);refine xK hkp (.cons hF .nil) ?_;refine zeh hd (by omega) (by omega) _ _ _ _ ?_;rintro _ rfl _;simp only [zF,zL];rw [zx.ret];refine hK _ _ _ _ _ H5 (zK (kV _)) ?_;rw [hs,Zae (by omega)]
 have ex:=getD_some (l:=a) (k:=i) ci;have hxW:=jP (k:=i) (by decide) ha;rw [decide_eq_true (by omega),zA,zB,zx.v15,zG,zD,zA,zI,zA,zx.fZ,uIx (i:=i) rfl ci,uLd ex,zA,zx.pq,zA,zA,zx.vz,sH,zI];obtain ⟨k,rfl⟩:∃ k,m=k+1:=⟨m-1,by omega⟩
 generalize hx:a.getD i 0=x at *
 refine zx.zwy (fun n x6 x18 h' nx'=>∃ (j c:Nat) (N:List Nat),x6=U c/\x18=I (j:Int)/\n+j=b.length/\c<18446744073709551616/\N.length=i+j/\Dg 18446744073709551616 N/\bv 18446744073709551616 N+18446744073709551616 ^ i*18446744073709551616 ^ j*c=bv 18446744073709551616 (Z.take (i+j))+18446744073709551616 ^ i*(x*bv 18446744073709551616 (b.take j))/\Hp h h' nx' [.arr id ((N++(Z.drop (i+j)++List.replicate (k+1) 0)).map U)]) (m:=b.length) (by omega) ⟨0,0,Z.take i,rfl,rfl,rfl,by decide,by simp [hZ],hd.take,by simp [bv],by rw [Zcb,<- Zar,List.take_append_drop];exact H3⟩ ?_;rintro n y6 y7 y8 y9 y10 y11 y18 y19 h4 nx4 R4 ⟨j,c,N,rfl,rfl,hn,hc,hN,hdN,hsN,H4⟩ hR4;rw [zx.t27,zA,zx.dw,qo];by_cases cj:j<b.length
 case neg =>
  have hj:j=b.length:=by omega
  subst hj;rw [decide_eq_false (by omega),zA,zB,zx.v19,zE,zZ,yG,zx.zlk,sH,qc (by omega),sIx (i:=i+b.length) (by omega) (by omega)];rw [show Z.drop (i+b.length)=[] from List.drop_eq_nil_of_le (by omega),Zbg,Zce] at H4;refine H4.store (k:=0) rfl (by simp;omega) rfl fun h5 H5 => ?_;rw [zx.zwz,qc (by omega)];refine hR k _ _ _ _ _ _ _ _ _ _ _ _ _ _ _ _ (by omega) ⟨i+1,N++[c],by congr 1,by omega,by simp;omega,hdN.append (Dg.one hc),?_,?_⟩
  ·rw [gH,hN,Nat.pow_add,hsN,Zae (by omega),Zae (by omega),hs,yK,hx,Zaw,Zbi]
  ·simp only [List.set_cons_zero] at H5;rw [Zaj,Zcc,kD (by rw [Zao];omega)] at H5;rw [Zaj,Zaj,Zar];exact H5
 have ey:=getD_some (l:=b) (k:=j) cj;have hyW:=jP (k:=j) (by decide) hb;have ez:=getD_some (l:=Z) (k:=i+j) (by omega);have hzW:=jP (k:=i+j) (by decide) hd;rw [decide_eq_true (by omega),zA,zB,zx.v19,zG,zD,zA,zI,zA,zx.dh,uIx (i:=j) rfl cj,uLd ey,zA,zx.xu]
 generalize hy:b.getD j 0=y at *
 generalize hz:Z.getD (i+j) 0=z at *
 refine zon hxW hyW _ _ _ _ ?_;rintro _ rfl _;have hp:x*y<=340282366920938463426481119284349108225:=Zav (show x<=18446744073709551615 by omega) (show y<=18446744073709551615 by omega);have hsplit:Z.drop (i+j)++List.replicate (k+1) 0=z::(Z.drop (i+(j+1))++List.replicate (k+1) 0):=by
  rw [Zbt (show i+j<Z.length by omega),Zca];rw [List.getElem?_eq_getElem (show i+j<Z.length by omega)] at ez;rw [Option.some.inj ez];rfl
 rw [hsplit] at H4;have ld:((N++z::(Z.drop (i+(j+1))++List.replicate (k+1) 0)).map U)[i+j]? = some (U z):=uGet (by rw [List.getElem?_append_right (by omega),show i+j-N.length=0 by omega];rfl);rw [jC,jB,zA,zx.bT,zA,zx.fD,zx.aJ,zx.eU,qc (by omega),sIx (i:=i+j) (by omega) (by omega),H4.load (k:=0) rfl ld];refine zef (c:=0) (by omega) _ _ _ _ ?_;rintro _ rfl _;rw [zx.zaj,zx.eX,jC,jB,zA,zx.fG,uAdd,zA,zx.rJ];refine zef (c:=0) (by omega) _ _ _ _ ?_;rintro _ rfl _;rw [jC,jB,zx.sZ,qc (by omega),uAdd,sIx (i:=i+j) (by omega) (by omega)];refine H4.store (k:=0) rfl (by simp;omega) rfl fun h5 H5 => ?_;rw [zx.aj,qc (by omega)];have e1:((x*y%18446744073709551616+z+0)%18446744073709551616+c+0)%18446744073709551616=(x*y+z+c)%18446744073709551616:=by omega
 have e2:((x*y / 18446744073709551616+(x*y%18446744073709551616+z+0) / 18446744073709551616)%18446744073709551616+((x*y%18446744073709551616+z+0)%18446744073709551616+c+0) / 18446744073709551616)%18446744073709551616=(x*y+z+c) / 18446744073709551616:=by
  generalize x*y=p at *
  omega
 rw [e1] at H5;rw [e2];refine hR4 (n-1) _ _ _ _ _ _ _ _ _ _ (by omega) ⟨j+1,(x*y+z+c) / 18446744073709551616,N++[(x*y+z+c)%18446744073709551616],rfl,by congr 1,by omega,?_,by simp;omega,hdN.append (Dg.one (Zbb _ (by decide))),?_,?_⟩
 ·generalize x*y=p at *
  omega
 ·rw [gH,hN,Nat.pow_add,show i+(j+1)=(i+j)+1 by omega,yK,yK,hz,hy,Zbr,Nat.pow_add];exact zf8 hsN rfl
 ·simp only [List.set_cons_zero] at H5;rw [Zaj,Zcc,kD (by rw [Zao];omega)] at H5;rw [Zaj,Zaj,Zar];exact H5
theorem one_step {b q r d a z A:Nat} (h:A=z*d+r) (hq:(r*b+a)=q*d+(r*b+a)%d):a+b*A=(q+b*z)*d+(r*b+a)%d:=by
 rw [h,Zaw,Zbj,Zbi,Zbx b r];omega
theorem zoq {k:Nat} {Q:List Nat}:List.replicate (k+1) 0++Q=List.replicate k 0++0::Q:=by
 rw [List.replicate_succ',Zar];rfl
theorem zor {b:Nat} {l:List Nat} {k:Nat} (h:k<=l.length):bv b l=bv b (l.take k)+b ^ k*bv b (l.drop k):=by
 have:=kW b (l.take k) (l.drop k)
 rwa [List.take_append_drop,Zaq,Zbo h] at this
def aH (s w:AV) (z:Int):Prop :=
 (s=I z/\w=.zf /\ -9223372036854775808<=z/\z<=9223372036854775807) \/
 (∃ n:Int,s=I n/\w=bQ (dg 18446744073709551616 z.natAbs)/\((z<0/\n = -1)\/(0<z/\n=1))/\9223372036854775808<=z.natAbs)
def sJ (v:AV) (z:Int):Prop:=∃ s w,v=.agg [s,w]/\aH s w z
theorem uAgg {N:Pa->Prop} {O:AV->Prop} {hh:T Blk} {l:List AV} (h:∀ v∈l,ni v=true):Frz True N O hh (.agg l) (.agg l) :=
 .agg _ _ rfl (List.all_eq_true.2 fun v hv=>ni.xg (h v hv)) fun i v v' h1 h2=>by rw [h1] at h2;cases h2;exact zK (h v (Zaa h1))
theorem aH.fix {s w:AV} {z:Int} (h:aH s w z):∀ v∈[s,w],ni v=true:=by
 intro v hv;simp only [Zan,List.not_mem_nil,or_false] at hv;rcases h with ⟨rfl,rfl,_⟩ | ⟨n,rfl,rfl,_⟩
 ·rcases hv with rfl | rfl <;> rfl
 ·rcases hv with rfl | rfl
  ·rfl
  ·exact kV _
theorem sJ.frz {v:AV} {z:Int} (h:sJ v z) {N:Pa->Prop} {O:AV->Prop} {hh:T Blk}:Frz True N O hh v v:=by
 obtain ⟨s,w,rfl,h⟩:=h;exact uAgg h.fix
theorem uN {z:Int} (h : -9223372036854775808<=z/\z<=9223372036854775807):sJ (.agg [I z,.zf]) z:=⟨_,_,rfl,.inl ⟨rfl,rfl,h.1,h.2⟩⟩
theorem zh6 {n:Nat} (h:n≠0) (h2:n<18446744073709551616):dg 18446744073709551616 n=[n]:=by
 rw [kA (by decide) h,Nat.div_eq_of_lt h2,jN,Zau h2]
theorem zq8 {n:Nat} (h:(dg 18446744073709551616 n).length=1):n≠0/\n<18446744073709551616/\dg 18446744073709551616 n=[n]:=by
 have h0:n≠0:=by rintro rfl;rw [jN] at h;simp at h
 have h1:n<18446744073709551616:=by
  have:=pJ (b:=18446744073709551616) (by decide) (jU (b:=18446744073709551616) (by decide) n).2.1;rw [(jU (b:=18446744073709551616) (by decide) n).1,h] at this;simpa using this
 exact ⟨h0,h1,zh6 h0 h1⟩
theorem zcc {n:Nat} (h:n≠0):1<=(dg 18446744073709551616 n).length:=by rw [kA (by decide) h];simp
theorem zos {K:AV->OP}:zh .eql (.nil .sl) .zf .zf K=K (.bool true):=nr rfl
theorem zvz {K:AV->OP}:zh .neq (.nil .sl) .zf .zf K=K (.bool false):=nr rfl
theorem zja {l:List Nat} (h:1<=l.length):jY .sl (bQ l)=some false:=by
 show (bif Nat.ble 1 l.length then some false else none)=_;rw [Zab h];rfl
theorem zv0 {l:List Nat} {K:AV->OP} (h:1<=l.length):zh .neq (.nil .sl) (bQ l) .zf K=K (.bool true):=by
 have e2:zh .neq (.nil .sl) (bQ l) .zf K=(match jY .sl (bQ l),jY .sl .zf with
  | some b,some true=>vF .neq b K
  | _,_=>.no 5):=nr rfl
 rw [e2,zja h];rfl
theorem zot {l:List Nat} {K:AV->OP} (h:1<=l.length):zh .eql (.nil .sl) (bQ l) .zf K=K (.bool false):=by
 have e2:zh .eql (.nil .sl) (bQ l) .zf K=(match jY .sl (bQ l),jY .sl .zf with
  | some b,some true=>vF .eql b K
  | _,_=>.no 5):=nr rfl
 rw [e2,zja h];rfl
theorem bEql {a b:Bool} {K:AV->OP}:zh .eql .bool (.bool a) (.bool b) K=K (.bool (a==b)):=by cases a <;> cases b <;> exact nr rfl
theorem bNeq {a b:Bool} {K:AV->OP}:zh .neq .bool (.bool a) (.bool b) K=K (.bool (a != b)):=by cases a <;> cases b <;> exact nr rfl
theorem zq9 {K:AV->OP}:yV [(I 0),.zf] [] K=K (.agg [I 0,.zf]):=nr rfl
theorem wR {z:Int} {K:AV->OP}:yV [(I 0),.zf] [(0,1,I z)] K=K (.agg [I z,.zf]):=nr rfl
theorem mR {z:Int} {l:List Nat} {K:AV->OP}:yV [(I 0),.zf] [(0,1,I z),(1,1,bQ l)] K=K (.agg [I z,bQ l]):=nr rfl
def Zs (k:Nat) (z:Int):Prop:=z.natAbs<18446744073709551616 ^ k
theorem Zs.len {k:Nat} {z:Int} (h:Zs k z):(dg 18446744073709551616 z.natAbs).length<=k:=kB (by decide) h
theorem xU {v:AV} {z:Int} (hv:sJ v z):Pure Tryz.prog B 249 [v] (· = .tup [.bool (decide (z<0)),bQ (dg 18446744073709551616 z.natAbs)]):=by
 obtain ⟨s,w,rfl,hv⟩:=hv;refine zS fun h nx K H0 hK=>zM zP yL 100 fun hf => ?_;rw [qx.go,qx.t15,zA,qx.gq];refine H0.box (l:=[s,w]) rfl fun pa h1 nx1 H1 => ?_;rcases hv with ⟨rfl,rfl,h1,h2⟩ | ⟨s,rfl,rfl,hs,hb⟩
 ·rw [zA,zI,zA,qx.jv,sFx,H1.load (k:=0) (i:=0+1) rfl rfl,zvz,zB,qx.v4,zE,zA,qx.cu,sFx,H1.load (k:=0) (i:=0+0) rfl rfl,fA,zB,qx.v5];by_cases c:z=0
  ·rw [decide_eq_true c,zG,zA,qx.fZ];simp only [zF,jJ,zL];rw [qx.ret];refine hK _ _ _ _ _ H1 (gD (zK rfl) (.zfr 1)) ?_;subst c;rw [Int.natAbs_zero,jN];rfl
  rw [decide_eq_false c,zE,zD];have hd:dg 18446744073709551616 z.natAbs=[z.natAbs]:=zh6 (by omega) (by omega);rw [zA,qx.bT,sFx,H1.load (k:=0) (i:=0+0) rfl rfl,qo,sFx,H1.load (k:=0) (i:=0+0) rfl rfl];refine zeg (by omega) _ _ _ _ ?_;rintro _ rfl _;simp only [qo,zN,sFx,H1.load (k:=0) (i:=0+0) rfl rfl];refine H1.yg (l:=[U z.natAbs]) rfl fun tb h2 nx2 H2 => ?_;simp only [qo,zN,sFx,H2.load (k:=1) (i:=0+0) rfl rfl];simp only [zF,jJ,zL];rw [qx.ret];refine hK _ _ _ _ _ H2 (gD (zK rfl) (H2.znd (k:=0) (cap:=some 1) (n:=1) (e:=1) rfl (Zag _) rfl (fun v hv=>by rw [List.mem_singleton.1 hv];rfl))) ?_;rw [hd];rfl
 ·have hl:1<=(dg 18446744073709551616 z.natAbs).length:=zcc (by omega);rw [zA,zI,zA,qx.jv,sFx,H1.load (k:=0) (i:=0+1) rfl rfl,zv0 hl,zB,qx.v4,zG,zA,qx.uq,sFx,H1.load (k:=0) (i:=0+0) rfl rfl,qo,sFx,H1.load (k:=0) (i:=0+1) rfl rfl];simp only [zF,jJ,zL];rw [qx.ret];refine hK _ _ _ _ _ H1 (gD (zK rfl) (zK (kV _))) ?_;rcases hs with ⟨a,rfl⟩ | ⟨a,rfl⟩
  ·rw [decide_eq_true (by omega),decide_eq_true a]
  ·rw [decide_eq_false (by omega),decide_eq_false (by omega)]
theorem d7 {b:Bool} {m:Nat}:Pure Tryz.prog B 257 [.bool b,bQ (dg 18446744073709551616 m)] (fun v=>sJ v (if b then -(m:Int) else m)):=by
 refine zS fun h nx K H0 hK=>zM zP yL 100 fun hf => ?_;have ret:∀ {h1 nx1 p l s w},Hp h h1 nx1 [.arr p l]->l.length=2->aH s w (if b then -(m:Int) else m)->∀ {x0 x1 x3 x4 x5 x6:AV},(zX 2 (.ptr p 0) (.agg [s,w]) h1 nx1 fun v2 h3 n4=>yw je.res K (je.fr x0 x1 (.ptr p 0) x3 x4 x5 x6) h3 n4)=.ok True:=fun H hl hc=>by
  refine H.qf (l2:=[_,_]) (k:=0) rfl hl rfl fun h4 H4 => ?_;rw [je.ret,H4.zi (k:=0) (n:=2) rfl rfl];exact hK _ _ _ _ _ H4 (uAgg hc.fix) ⟨_,_,rfl,hc⟩
 rw [je.go,je.t25,zA,je.gq];refine H0.alloc fun p h1 nx1 H1 => ?_;rw [zA,zI,zA,je.jv,sH,fA,zB,je.v3];by_cases c0:m=0
 ·subst c0;rw [decide_eq_true (by rw [jN];rfl),zG,zA,je.uq,zq9];simp only [zF,jJ,zL];exact ret H1 rfl (.inl ⟨by cases b <;> rfl,rfl,by cases b <;> simp,by cases b <;> simp⟩)
 have hl:=zcc c0;rw [decide_eq_false (by omega),zE,zA,je.cu,je.r3_0,je.zgz,sH,fA];by_cases c1:(dg 18446744073709551616 m).length=1
 ·obtain ⟨_,hmW,hd1⟩:=zq8 c1;rw [hd1];rw [decide_eq_true (by simp)];simp only [yX];rw [uIx (l:=[m]) (j:=0) (i:=0) rfl (by simp),uLd (x:=m) rfl,show (AV.int .u64 9223372036854775807)=U 9223372036854775807 from rfl,uLeq,je.r3_1,je.zdl,zV];by_cases c2:m<=9223372036854775807
  ·rw [decide_eq_true c2];simp only [yX,zV];rw [zB,je.v4];cases b with
   | true =>
    rw [zG,zA,je.fZ,uIx (l:=[m]) (j:=0) (i:=0) rfl (by simp),uLd (x:=m) rfl,zca (by omega),uNeg (by omega),wR];simp only [zF,jJ,zL];exact ret H1 rfl (.inl ⟨by rw [if_pos rfl],rfl,by rw [if_pos rfl];omega,by rw [if_pos rfl];omega⟩)
   | false =>
    rw [zE,zA,je.vz,je.r5_0,je.zg0,sH,fA,decide_eq_true (by simp)];simp only [yX];rw [uIx (l:=[m]) (j:=0) (i:=0) rfl (by simp),uLd (x:=m) rfl,show (AV.int .u64 9223372036854775807)=U 9223372036854775807 from rfl,uLeq,je.r5_1,je.zg1,zV,decide_eq_true c2,zB,je.v5,zG,zA,je.dw,uIx (l:=[m]) (j:=0) (i:=0) rfl (by simp),uLd (x:=m) rfl,zca (by omega),wR];simp only [zF,jJ,zL];exact ret H1 rfl (.inl ⟨rfl,rfl,by show (-9223372036854775808:Int)<=(m:Int);omega,by show (m:Int)<=9223372036854775807;omega⟩)
  ·rw [decide_eq_false c2];simp only [jL,zY];rw [zB,je.v4,zE,zA,je.vz,je.r5_0,je.zg0,sH,fA];rw [decide_eq_true (by simp)];simp only [yX];rw [uIx (l:=[m]) (j:=0) (i:=0) rfl (by simp),uLd (x:=m) rfl,show (AV.int .u64 9223372036854775807)=U 9223372036854775807 from rfl,uLeq,je.r5_1,je.zg1,zV,decide_eq_false c2];rw [zB,je.v5,zE,zA,je.dh,zB,je.v6];cases b with
   | true =>
    rw [zG,zA,je.xu,mR];simp only [zF,jJ,zL];exact ret H1 rfl (.inr ⟨-1,rfl,by rw [if_pos rfl,Int.natAbs_neg];exact congrArg bQ hd1.symm,.inl ⟨by rw [if_pos rfl];omega,rfl⟩,by rw [if_pos rfl];omega⟩)
   | false =>
    rw [zE,zD,zA,je.tu,mR];simp only [zF,jJ,zL];exact ret H1 rfl (.inr ⟨1,rfl,congrArg bQ hd1.symm,.inr ⟨by show (0:Int)<(m:Int);omega,rfl⟩,by show 9223372036854775808<=(m:Int).natAbs;omega⟩)
 ·rw [decide_eq_false (by omega)];simp only [jL];rw [je.r3_1,je.zdl];simp only [zY,jL];have hmb:9223372036854775808<=m:=by
   rcases Nat.lt_or_ge m 18446744073709551616 with q | q
   ·exact absurd (by rw [zh6 c0 q];rfl) c1
   ·omega
  rw [zB,je.v4,zE,zA,je.vz,je.r5_0,je.zg0,sH,fA];rw [decide_eq_false (by omega)];simp only [jL];rw [je.r5_1,je.zg1];simp only [zY];rw [zB,je.v5,zE,zA,je.dh,zB,je.v6];cases b with
  | true =>
   rw [zG,zA,je.xu,mR];simp only [zF,jJ,zL];exact ret H1 rfl (.inr ⟨-1,rfl,by rw [if_pos rfl,Int.natAbs_neg];rfl,.inl ⟨by rw [if_pos rfl];omega,rfl⟩,by rw [if_pos rfl];omega⟩)
  | false =>
   rw [zE,zD,zA,je.tu,mR];simp only [zF,jJ,zL];exact ret H1 rfl (.inr ⟨1,rfl,rfl,.inr ⟨by show (0:Int)<(m:Int);omega,rfl⟩,by show 9223372036854775808<=(m:Int).natAbs;omega⟩)
theorem of85 {z:Int} (h : -9223372036854775808<=z/\z<=9223372036854775807):Pure Tryz.prog B 187 [I z] (fun v=>sJ v z):=by
 refine zS fun hh nx K H0 hK=>zM zP yL 100 fun hf => ?_;rw [fJ.go,fJ.t3,zA,fJ.gq];refine H0.alloc fun p h1 nx1 H1 => ?_;rw [zA,fJ.jv,wR];refine H1.qf (l2:=[I z,.zf]) (k:=0) rfl rfl rfl fun h4 H4 => ?_;simp only [zF,zL];rw [fJ.ret,H4.zi (k:=0) (n:=2) rfl rfl];exact hK _ _ _ _ _ H4 (uN h).frz (uN h)
def sgnZ (z:Int):Int:=if z<0 then -1 else if 0<z then 1 else 0
theorem zyw {z:Int} {K:AV->OP}:sMin false (I 1) [I z] K=K (I (if z<1 then z else 1)):=by
 have e:sMin false (I 1) [I z] K=K (I (bif ilt z 1 then z else 1)):=nr rfl;rw [e,qX];by_cases c:z<1
 ·rw [if_pos c,decide_eq_true c];rfl
 ·rw [if_neg c,decide_eq_false c];rfl
theorem zyx {z:Int} {K:AV->OP}:sMin true (I (-1)) [I z] K=K (I (if -1<z then z else -1)):=by
 have e:sMin true (I (-1)) [I z] K=K (I (bif ilt (-1) z then z else -1)):=nr rfl;rw [e,qX];by_cases c : -1<z
 ·rw [if_pos c,decide_eq_true c];rfl
 ·rw [if_neg c,decide_eq_false c];rfl
theorem zra {v:AV} {z:Int} (hv:sJ v z):Pure Tryz.prog B 194 [v] (· = I (sgnZ z)):=by
 obtain ⟨s,w,rfl,hv⟩:=hv;refine zS fun h nx K H0 hK=>zM zP yL 100 fun hf => ?_;rw [fK.go,fK.t3,zA,fK.gq];refine H0.box (l:=[s,w]) rfl fun pa h1 nx1 H1 => ?_;obtain ⟨n,rfl,hn⟩:∃ n,s=I n/\(if -1<(if n<1 then n else 1) then (if n<1 then n else 1) else -1)=sgnZ z:=by
  unfold sgnZ;rcases hv with ⟨rfl,_,_⟩ | ⟨n,rfl,_,⟨a,rfl⟩ | ⟨a,rfl⟩,_⟩
  ·refine ⟨_,rfl,?_⟩
   (repeat' split) <;> omega
  ·exact ⟨_,rfl,by rw [if_pos a];rfl⟩
  ·have a':¬ z<0:=by omega
   exact ⟨_,rfl,by rw [if_neg a',if_pos a];rfl⟩
 rw [zA,fK.jv,sFx,H1.load (k:=0) (i:=0+0) rfl rfl,zyw,zyx,hn];simp only [zF,zL];rw [fK.ret];exact hK _ _ _ _ _ H1 (zK rfl) rfl
theorem zv1 {v:AV} {z:Int} (hv:sJ v z):Pure Tryz.prog B 193 [v] (fun v=>sJ v (-z)):=by
 have hv0:=hv;obtain ⟨s,w,rfl,hv⟩:=hv;refine zS fun h nx K H0 hK=>zM zP yL 100 fun hf => ?_;rw [xh.go,xh.t11,zA,xh.gq];refine H0.box (l:=[s,w]) rfl fun pa h1 nx1 H1 => ?_;refine H1.alloc fun p h2 nx2 H2 => ?_;rw [zA,zA,xh.jv,sFx,H2.load (k:=1) (i:=0+1) (v:=w) rfl rfl];have words:∀ {x3 x4 x5:AV},IR.run xh.t9 (CS Tryz.prog B) 100 (fnO xh.res K) (yw xh.res K) (xh.fr (.agg [s,w]) (.ptr pa 0) (.ptr p 0) x3 x4 x5) h2 nx2=.ok True:=by
  intro x3 x4 x5;rw [xh.t9,zA,xh.pq,H2.zi (k:=1) (n:=2) rfl rfl];refine xU hv0 _ _ _ _ ?_;rintro _ rfl _;rw [jC,jB,zA,xh.vz,j4];refine d7 _ _ _ _ ?_;rintro _ ⟨s',w',rfl,hc⟩ _;refine H2.qf (l2:=[s',w']) (k:=0) rfl rfl rfl fun h4 H4 => ?_;simp only [zF,zL];rw [xh.ret,H4.zi (k:=0) (n:=2) rfl rfl];have e:(if (!decide (z<0))=true then -(z.natAbs:Int) else z.natAbs) = -z:=by
   by_cases c:z<0
   ·rw [decide_eq_true c,if_neg (by decide)];omega
   ·rw [decide_eq_false c,if_pos (by decide)];omega
  rw [e] at hc;exact hK _ _ _ _ _ H4 (uAgg hc.fix) ⟨_,_,rfl,hc⟩
 rcases hv with ⟨rfl,rfl,h1,h2⟩ | ⟨s,rfl,rfl,hs,hb⟩
 ·rw [zos];simp only [yX];rw [sFx,H2.load (k:=1) (i:=0+0) rfl rfl,fE,zV,zB,xh.v5];by_cases c:z = -9223372036854775808
  ·rw [decide_eq_true c,Zah,zE,zD];exact words
  ·rw [decide_eq_false c,Zak,zG,zA,xh.uq,sFx,H2.load (k:=1) (i:=0+0) rfl rfl,uNeg (by omega),wR];refine H2.qf (l2:=[I (-z),.zf]) (k:=0) rfl rfl rfl fun h4 H4 => ?_;simp only [zF,zL];rw [xh.ret,H4.zi (k:=0) (n:=2) rfl rfl];exact hK _ _ _ _ _ H4 (uN (by omega)).frz (uN (by omega))
 ·rw [zot (zcc (by omega))];simp only [jL,zY];rw [zB,xh.v5,zE,zD];exact words
abbrev D (m:Nat):AV:=I (m:Int)
def qj (l:List Nat):AV:=.lst 1 l.length (l.map D)
theorem zjb (l:List Nat):∀ v∈l.map D,ni v=true:=fun v hv=>by obtain ⟨x,_,rfl⟩:=List.mem_map.1 hv;rfl
theorem uB (l:List Nat):ni (qj l)=true:=pB (zjb l)
theorem dGet {l:List Nat} {i x:Nat} (h:l[i]? = some x):(l.map D)[i]? = some (D x):=by rw [List.getElem?_map,h];rfl
theorem dLen {l:List Nat} {K:AV->OP}:sLen (qj l) K=K (I l.length):=yF ..
theorem dIx {l:List Nat} {i:Nat} {j:Int} {op:AV->OP} (hj:j=(i:Int)) (hi:i<l.length):zT 1 (qj l) (I j) op=op (.fp ((l.map D).drop (i*1))):=rq hj hi
theorem dLd {l:List Nat} {i x:Nat} {h:T Blk} {op:AV->OP} (hx:l[i]? = some x):zC (.fp ((l.map D).drop (i*1))) h op=op (D x):=ldL (dGet hx)
theorem Hp.letD {h0 h:T Blk} {nx:Pa} {L:List Ob} {id:Pa} {l:List Nat} {n:Nat} (H:Hp h0 h nx (.arr id (l.map D)::L)) (hn:l.length=n):∃ h',u5 h' h/\Hp h0 h' nx L/\af h' h (.sl id 0 n (some n) 1) (qj l):=by
 subst hn;exact ⟨_,dN,H.zt0,xk.frz (H.own _ (Zal ..)) (T.get_set_same _ _ _ _) (Zag _) (by simp) (zjb l)⟩
theorem zv2 {l:List Nat} {i:Nat} {op:AV->OP} (hl:1<=l.length) (hi:i<=l.length):dH 1 (qj l) none (some (I (i:Int))) none op=op (qj (l.take i)):=by
 show (bif Nat.beq 1 1&&Nat.ble 1 l.length then (match bnd (some (I (i:Int))) l.length l.length with | none=>Out.no 17 | some h=>match bnd none h 0 with | none=>.no 17 | some q=>op (.lst 1 (h-q) (((l.map D).drop (q*1)).take ((h-q)*1)))) else .no 17)=_;rw [Zab hl];have:bnd (some (I (i:Int))) l.length l.length=some i:=by
  show (bif Nat.ble i l.length then some i else none)=_;rw [Zab hi];rfl
 rw [this];show op (.lst 1 (i-0) (((l.map D).drop (0*1)).take ((i-0)*1)))=_;unfold qj;rw [Zaq,Zbo hi,List.map_take];simp
theorem Hp.zax {h0 h:T Blk} {nx:Pa} {L:List Ob} (H:Hp h0 h nx L) (e:Nat):Hp h0 h nx (.gro none e 0 []::L) :=
  ⟨H.keep,fun x hx=>by rcases List.mem_cons.1 hx with rfl | q;· exact ⟨rfl,rfl⟩
                       · exact H.own x q,fun n hn=>H.off n (by simpa [Ob.names] using hn),by have:=H.nd;simpa [Ob.names] using this,H.fr⟩
theorem dV {l:List Nat} (hd:Dg 1000000000 l) (hl:l.length<=1000000):Pure Tryz.prog B 269 [qj l] (· = qj (dg 1000000000 (bv 1000000000 l))):=by
 refine zS fun h nx K H0 hK=>zM zP yL 1000010 fun hf => ?_;rw [qg.go,qg.t12,zA,qg.gq,zA,zI];refine qg.t7_L (fun m x0 h' nx'=>x0=qj (l.take m)/\m<=l.length/\bv 1000000000 (l.take m)=bv 1000000000 l/\Hp h h' nx' []) (m:=l.length) (by omega) ⟨by rw [List.take_length],by omega,by rw [List.take_length],H0⟩ ?_;rintro m z0 z2 h3 nx3 R ⟨rfl,hm,hb,H3⟩ hR;have fin:Nm (l.take m)->K (qj (l.take m)) h3 nx3=.ok True:=fun hn=>hK _ _ _ _ _ H3 (zK (uB _)) (by rw [<- hb,<- vV (by decide) hd.take hn]);have hlen:(l.take m).length=m:=by rw [Zaq];omega
 rw [qg.t6,zA,zA,qg.jv,qg.aA,qg.aB,dLen,bZ,hlen];cases m with
 | zero =>
  rw [decide_eq_false (by omega)];simp only [jL];rw [qg.rU,qg.bY];simp only [jL,zY];rw [zB,qg.v2,zE,zZ,yG,zA,qg.fC];simp only [zF,zL];rw [qg.ret];exact fin (by simp [Nm])
 | succ k =>
  have e:l[k]? = some (l.getD k 0):=getD_some (by omega);have e':(l.take (k+1))[k]? = some (l.getD k 0):=by rw [List.getElem?_take_of_lt (by omega),e]
  rw [decide_eq_true (by omega)];simp only [yX];rw [dLen,hlen,fF (by omega),qg.rU,qg.bY];simp only [yX];rw [dIx (i:=k) (by omega) (by omega),dLd e',fA,zV,zB,qg.v2];by_cases d:l.getD k 0=0
  ·rw [decide_eq_true (by omega),zG,zD,zI,qg.cu,dLen,hlen,fF (by omega),show ((k+1:Nat):Int)-1=((k:Nat):Int) by omega,zv2 (by omega) (by omega),List.take_take,Zbo (by omega)];refine hR k _ _ _ _ (by omega) ⟨rfl,by omega,?_,H3⟩;rw [uZ e,d] at hb;simpa using hb
  ·rw [decide_eq_false (by omega),zE,zZ,yG,zA,qg.fC];simp only [zF,zL];rw [qg.ret];exact fin (zi8 e d)
theorem zcd {l:List Nat} {i:Nat}:Pure Tryz.prog B 271 [qj l,I (i:Int)] (· = D (l.getD i 0)):=by
 refine zS fun h nx K H0 hK=>zM zP yL 100 fun hf => ?_;rw [bD.go,bD.t9,zA,bD.gq,zA,zA,bD.jv,dLen,qo,zB,bD.v3];by_cases c:i<l.length
 ·rw [decide_eq_true (by omega),zG,zA,bD.uq,dIx (i:=i) rfl c,dLd (getD_some c)];simp only [zF,zL];rw [bD.ret];exact hK _ _ _ _ _ H0 (zK rfl) rfl
 ·rw [decide_eq_false (by omega),zE,zD,zA,bD.pq];simp only [zF,zL];rw [bD.ret];exact hK _ _ _ _ _ H0 (zK rfl) (by rw [Zad,List.getElem?_eq_none (by omega)];rfl)
def rW (z:Int):AV:=.agg [.bool (decide (z<0)),qj (dg 1000000000 z.natAbs)]
theorem zv3 {b:Bool} {l:List Nat} {K:AV->OP}:yV [(.bool false),.zf] [(0,1,.bool b),(1,1,qj l)] K=K (.agg [.bool b,qj l]):=nr rfl
theorem dAgg {N:Pa->Prop} {O:AV->Prop} {hh:T Blk} {b:Bool} {l:List Nat}:Frz True N O hh (.agg [.bool b,qj l]) (.agg [.bool b,qj l]):=uAgg fun v hv=>by
 simp only [Zan,List.not_mem_nil,or_false] at hv;rcases hv with rfl | rfl
 ·rfl
 ·exact uB l
theorem zej {n:Nat} (h:n≠0):1<=(dg 1000000000 n).length:=by rw [kA (by decide) h];simp
theorem gV {b:Bool} {l:List Nat} (hd:Dg 1000000000 l) (hl:l.length<=1000000):Pure Tryz.prog B 214 [.bool b,qj l] (· = rW (if b then -(bv 1000000000 l:Int) else (bv 1000000000 l:Int))):=by
 refine zS fun h nx K H0 hK=>zM zP yL 100 fun hf => ?_;rw [bV.go,bV.t5,zA,bV.gq];refine H0.alloc fun p h1 nx1 H1 => ?_;rw [zA,bV.jv];refine dV hd hl _ _ _ _ ?_;rintro _ rfl _;rw [zA,bV.uq];have key:∀ c:Bool,c=(b&&decide (0<bv 1000000000 l))->(yV [(.bool false),.zf] [(0,1,.bool c),(1,1,qj (dg 1000000000 (bv 1000000000 l)))] fun v5=>zX 2 (.ptr p 0) v5 h1 nx1 fun v6 h7 n8=>IR.run .ret (CS Tryz.prog B) 100 (fnO bV.res K) (yw bV.res K) (bV.fr (.bool b) (qj (dg 1000000000 (bv 1000000000 l))) (.ptr p 0)) h7 n8)=.ok True:=by
  intro c hc;rw [zv3];refine H1.qf (l2:=[.bool c,qj (dg 1000000000 (bv 1000000000 l))]) (k:=0) rfl rfl rfl fun h2 H2 => ?_;simp only [zF,zL];rw [bV.ret,H2.zi (k:=0) (n:=2) rfl rfl];refine hK _ _ _ _ _ H2 dAgg ?_;unfold rW;subst hc;cases b with
  | false=>rw [if_neg (by decide),Int.natAbs_natCast,decide_eq_false (show ¬ ((bv 1000000000 l:Int)<0) by omega)];rfl
  | true =>
   rw [if_pos rfl,Int.natAbs_neg,Int.natAbs_natCast,Bool.true_and]
   congr 3
   exact decide_eq_decide.2 (by omega)
 cases b with
 | false =>
  simp only [jL,zY];exact key _ rfl
 | true =>
  simp only [yX];rw [dLen,bZ,zV];refine key _ ?_;rw [Bool.true_and];refine decide_eq_decide.2 ?_;rcases Nat.eq_zero_or_pos (bv 1000000000 l) with q | q
  ·rw [q,jN];simp
  ·have:=zej (n:=bv 1000000000 l) (by omega);omega
theorem zjc {a b:List Nat} (ha:a.length<=1000000) (hb:b.length<=1000000):Pure Tryz.prog B 216 [qj a,qj b] (· = I (oG a b)):=by
 refine zS fun h nx K H0 hK=>zM zP yL 1000010 fun hf' => ?_;have ret:∀ {h1 nx1 L} {z:Int},Hp h h1 nx1 L->z=oG a b->K (I z) h1 nx1=.ok True:=fun H e=>hK _ _ _ _ _ H (zK rfl) (by rw [e]);rw [jl.go,jl.t38,zA,jl.gq,zA,zA,jl.jv,dLen,dLen,fE,zB,jl.v4];by_cases c:a.length=b.length
 case neg =>
  rw [decide_eq_false (by omega),Zak,zG,zA,zA,jl.uq,dLen,dLen,qo,zB,jl.v5];by_cases d:a.length<b.length
  ·rw [decide_eq_true (by omega),zG,zA,jl.vk];simp only [zF,zL];rw [jl.ret];exact ret H0 (by rw [oG,if_pos c,if_pos d])
  ·rw [decide_eq_false (by omega),zE,zD,zA,jl.vz];simp only [zF,zL];rw [jl.ret];exact ret H0 (by rw [oG,if_pos c,if_neg d])
 rw [decide_eq_true (by omega),Zah,zE,zD,zA,zA,jl.bT,dLen,fF (by omega),zI];refine jl.zew (fun m x3 h' nx'=>∃ k:Nat,x3=I ((k:Int)-1)/\m=k/\k<=a.length/\cmpT a b k=cmpT a b a.length/\Hp h h' nx' []) (m:=a.length) (by omega) ⟨a.length,rfl,rfl,by omega,rfl,H0⟩ ?_;rintro m z2 z3 z6 z7 z8 h3 nx3 R ⟨k,rfl,rfl,hk,hc,H3⟩ hR;rw [jl.t30,zA,zA,jl.fD,eH];cases m with
 | zero =>
  rw [decide_eq_false (by omega),zB,jl.v6,zE,zZ,yG,zA,jl.zex];simp only [zF,zL];rw [jl.ret];exact ret H3 (by rw [oG,if_neg (fun q=>q c),<- hc];rfl)
 | succ k =>
  have ea:=getD_some (l:=a) (k:=k) (by omega);have eb:=getD_some (l:=b) (k:=k) (by omega);rw [cmpT] at hc;rw [decide_eq_true (by omega),zB,jl.v6,zG,zD,zA,zI,zA,zA,jl.sZ,dIx (i:=k) (by omega) (by omega),dLd ea,dIx (i:=k) (by omega) (by omega),dLd eb,qo,zB,jl.v7];by_cases e:a.getD k 0<b.getD k 0
  ·rw [if_neg (by omega),if_pos e] at hc;rw [decide_eq_true (by omega),zG,zA,jl.rF];simp only [zF,jJ,zL];rw [jl.ret];exact ret H3 (by rw [oG,if_neg (fun q=>q c),<- hc])
  rw [decide_eq_false (by omega),zE,zD,zA,jl.oK,dIx (i:=k) (by omega) (by omega),dLd ea,dIx (i:=k) (by omega) (by omega),dLd eb,bZ,zB,jl.v8];by_cases d:a.getD k 0=b.getD k 0
  ·rw [if_pos d] at hc;rw [decide_eq_false (by omega),zE,zD,jl.zae,fF (by omega)];exact hR k _ _ _ _ _ _ _ (by omega) ⟨k,by congr 1;omega,rfl,by omega,hc,H3⟩
  ·rw [if_neg d,if_neg e] at hc;rw [decide_eq_true (by omega),zG,zA,jl.tu];simp only [zF,jJ,zL];rw [jl.ret];exact ret H3 (by rw [oG,if_neg (fun q=>q c),<- hc])
theorem aH.two {s w:AV} {z:Int} (h:aH s w z):(s=I z/\w=.zf /\ -9223372036854775808<=z/\z<=9223372036854775807/\∀ K:AV->OP,zh .eql (.nil .sl) w .zf K=K (.bool true))\/(z≠0/\∀ K:AV->OP,zh .eql (.nil .sl) w .zf K=K (.bool false)):=by
 rcases h with ⟨rfl,rfl,h1,h2⟩ | ⟨n,rfl,rfl,hs,hb⟩
 ·exact .inl ⟨rfl,rfl,h1,h2,fun _=>zos⟩
 ·exact .inr ⟨by omega,fun _=>zot (zcc (by omega))⟩
theorem zrb {x y:Nat} (h:y<=x):(dg 18446744073709551616 y).length<=(dg 18446744073709551616 x).length:=by
 rcases Nat.lt_or_ge (dg 18446744073709551616 x).length (dg 18446744073709551616 y).length with q | q
 ·have:=kK (b:=18446744073709551616) (by decide) q;omega
 ·exact q
theorem zjd {x y:Nat} (hx:(dg 18446744073709551616 x).length<=100000) (h:y<=x) (h0:x≠0):Pure Tryz.prog B 262 [bQ (dg 18446744073709551616 x),bQ (dg 18446744073709551616 y)] (· = bQ (dg 18446744073709551616 (x-y))):=by
 have ox:=jU (b:=18446744073709551616) (by decide) x;have oy:=jU (b:=18446744073709551616) (by decide) y;have:=zvx (B:=B) ox.2.1 oy.2.1 (zcc h0) hx (zrb h) (by rw [ox.1,oy.1];exact h)
 rwa [ox.1,oy.1] at this
theorem zrd {x y:Nat} (hx:(dg 18446744073709551616 x).length<=100000) (hy:(dg 18446744073709551616 y).length<=100000):Pure Tryz.prog B 260 [bQ (dg 18446744073709551616 x),bQ (dg 18446744073709551616 y)] (· = bQ (dg 18446744073709551616 (x+y))):=by
 have ox:=jU (b:=18446744073709551616) (by decide) x;have oy:=jU (b:=18446744073709551616) (by decide) y;have:=zvw (B:=B) ox.2.1 oy.2.1 hx hy
 rwa [ox.1,oy.1] at this
theorem zre {x y:Nat} (hx:(dg 18446744073709551616 x).length<=100000) (hy:(dg 18446744073709551616 y).length<=100000) (h:x≠0\/y≠0):Pure Tryz.prog B 265 [bQ (dg 18446744073709551616 x),bQ (dg 18446744073709551616 y)] (· = bQ (dg 18446744073709551616 (x*y))):=by
 have ox:=jU (b:=18446744073709551616) (by decide) x;have oy:=jU (b:=18446744073709551616) (by decide) y
 have:=zvy (B:=B) ox.2.1 oy.2.1 (by
  rcases h with h | h
  ·have:=zcc h;omega
  ·have:=zcc h;omega) hx hy
 rwa [ox.1,oy.1] at this
theorem zou {a b:Int} {K:AV->OP}:zh .add .int (I a) (I b) K=K (I (IntKind.wrap .i64 (a+b))):=zs6
theorem zks {a b:Int} (ha : -9223372036854775808<=a/\a<=9223372036854775807) (hb : -9223372036854775808<=b/\b<=9223372036854775807) :
  (decide (a<IntKind.wrap .i64 (a+b))==decide (0<b))=true↔(-9223372036854775808<=a+b/\a+b<=9223372036854775807):=by
 have e:∀ z:Int,IntKind.wrap .i64 z=(z+9223372036854775808)%18446744073709551616-9223372036854775808:=by
  intro z;rw [IntKind.wrap_i64] <;> omega
 rw [e];by_cases c:0<b
 ·rw [decide_eq_true c];by_cases d:a+b<=9223372036854775807
  ·rw [decide_eq_true (by omega)];simp;omega
  ·rw [decide_eq_false (by omega)];simp;omega
 ·rw [decide_eq_false c];by_cases d : -9223372036854775808<=a+b
  ·rw [decide_eq_false (by omega)];simp;omega
  ·rw [decide_eq_true (by omega)];simp;omega
theorem zt1 {va vb:AV} {a b:Int} {k:Nat} (hva:sJ va a) (hvb:sJ vb b) (hk:k<=90000) (hza:Zs k a) (hzb:Zs k b):Pure Tryz.prog B 197 [va,vb] (fun v=>sJ v (a+b)):=by
 have hva0:=hva;have hvb0:=hvb;obtain ⟨s,w,rfl,hva⟩:=hva;obtain ⟨s',w',rfl,hvb⟩:=hvb;have la:=hza.len;have lb:=hzb.len;refine zS fun h nx K H0 hK=>zM zP yL 100 fun hf => ?_;rw [jr.go,jr.t30,zA,jr.gq];refine H0.box (l:=[s,w]) rfl fun pa h1 nx1 H1 => ?_;refine H1.box (l:=[s',w']) rfl fun pb h2 nx2 H2 => ?_;refine H2.alloc fun p h3 nx3 H3 => ?_;have ret:∀ {h4 nx4 v z} {x0 x1 x2 x3 x5 x6 x7 x8 x9 x10 x11 x12 x13:AV},Hp h h4 nx4 [.arr p [I 0,.zf],.arr pb [s',w'],.arr pa [s,w]]->sJ v z->z=a+b->(zX 2 (.ptr p 0) v h4 nx4 fun v2 h3 n4=>yw jr.res K (jr.fr x0 x1 x2 x3 (.ptr p 0) x5 x6 x7 x8 x9 x10 x11 x12 x13) h3 n4)=.ok True:=fun H hc e=>by
  obtain ⟨s2,w2,rfl,hc⟩:=hc;refine H.qf (l2:=[s2,w2]) (k:=0) rfl rfl rfl fun h4 H4 => ?_;rw [jr.ret,H4.zi (k:=0) (n:=2) rfl rfl];exact hK _ _ _ _ _ H4 (uAgg hc.fix) ⟨_,_,rfl,e ▸ hc⟩
 have words:∀ {x5 x6 x7 x8 x9 x10 x11 x12 x13:AV},IR.run jr.t28 (CS Tryz.prog B) 100 (fnO jr.res K) (yw jr.res K) (jr.fr (.agg [s,w]) (.agg [s',w']) (.ptr pa 0) (.ptr pb 0) (.ptr p 0) x5 x6 x7 x8 x9 x10 x11 x12 x13) h3 nx3=.ok True:=by
  intro x5 x6 x7 x8 x9 x10 x11 x12 x13;rw [jr.t28,zA,jr.xu,H3.zi (k:=2) (n:=2) rfl rfl];refine xU hva0 _ _ _ _ ?_;rintro _ rfl _;rw [jC,jB,zA,jr.bT,H3.zi (k:=1) (n:=2) rfl rfl];refine xU hvb0 _ _ _ _ ?_;rintro _ rfl _;rw [jC,jB,zA,zI,zA,jr.fD,bEql,zB,jr.v12];by_cases c:(decide (a<0)==decide (b<0))=true
  ·rw [c,zG,zA,jr.fG];refine zrd (by omega) (by omega) _ _ _ _ ?_;rintro _ rfl _;refine d7 _ _ _ _ ?_;intro v hv _;simp only [zF,jJ,zL];refine ret H3 hv ?_;by_cases d:a<0
   ·rw [decide_eq_true d] at c ⊢;have:b<0:=by simpa using c
    rw [if_pos rfl];omega
   ·rw [decide_eq_false d] at c ⊢;have:¬ b<0:=by simpa using c
    rw [if_neg (by decide)];omega
  have c':(decide (a<0)==decide (b<0))=false:=by simpa using c
  rw [c',zE,zA,jr.sZ];refine zvv (by unfold Sz;omega) (by unfold Sz;omega) _ _ _ _ ?_;rintro _ rfl _;rw [eH,zB,jr.v13];have hdiff:(a<0/\0<=b)\/(0<=a/\b<0):=by
   by_cases d:a<0 <;> by_cases e:b<0 <;> simp [d,e] at c' <;> omega
  by_cases d:b.natAbs<=a.natAbs
  ·rw [decide_eq_true (by unfold cmpN;rw [if_neg (by omega)];split <;> decide),zG,zA,jr.rF];refine zjd (by omega) d (by omega) _ _ _ _ ?_;rintro _ rfl _;refine d7 _ _ _ _ ?_;intro v hv _;simp only [zF,jJ,zL];refine ret H3 hv ?_;rcases hdiff with ⟨e,f⟩ | ⟨e,f⟩
   ·rw [decide_eq_true e,if_pos rfl];omega
   ·rw [decide_eq_false (by omega),if_neg (by decide)];omega
  ·rw [decide_eq_false (by unfold cmpN;rw [if_pos (by omega)];decide),zE,zD,zA,jr.aj];refine zjd (by omega) (by omega) (by omega) _ _ _ _ ?_;rintro _ rfl _;refine d7 _ _ _ _ ?_;intro v hv _;simp only [zF,jJ,zL];refine ret H3 hv ?_;rcases hdiff with ⟨e,f⟩ | ⟨e,f⟩
   ·rw [decide_eq_false (by omega),if_neg (by decide)];omega
   ·rw [decide_eq_true f,if_pos rfl];omega
 rw [zA,zA,jr.jv,sFx,H3.load (k:=2) (i:=0+1) (v:=w) rfl rfl];rcases hva.two with ⟨rfl,rfl,a1,a2,e1⟩ | ⟨_,e1⟩
 case inr =>
  rw [e1];simp only [jL,zY];rw [zB,jr.v10,zE,zD];exact words
 rw [e1];simp only [yX];rw [sFx,H3.load (k:=1) (i:=0+1) (v:=w') rfl rfl];rcases hvb.two with ⟨rfl,rfl,b1,b2,e2⟩ | ⟨_,e2⟩
 case inr =>
  rw [e2,zV,zB,jr.v10,zE,zD];exact words
 rw [e2,zV,zB,jr.v10,zG,zA,jr.uq,sFx,H3.load (k:=2) (i:=0+0) rfl rfl,sFx,H3.load (k:=1) (i:=0+0) rfl rfl,zou,zA,jr.vk,sFx,H3.load (k:=2) (i:=0+0) rfl rfl,bZ,sFx,H3.load (k:=1) (i:=0+0) rfl rfl,bZ,bEql,zB,jr.v11];have hw:=zks ⟨a1,a2⟩ ⟨b1,b2⟩;by_cases c:(decide (a<IntKind.wrap .i64 (a+b))==decide (0<b))=true
 ·rw [c,zG,zA,jr.cu,uT (hw.1 c),wR];simp only [zF,zL];exact ret H3 (uN (hw.1 c)) rfl
 ·rw [show (decide (a<IntKind.wrap .i64 (a+b))==decide (0<b))=false by simpa using c,zE,zD];exact words
theorem zv4 {va vb:AV} {a b:Int} {k:Nat} (hva:sJ va a) (hvb:sJ vb b) (hk:k<=90000) (hza:Zs k a) (hzb:Zs k b):Pure Tryz.prog B 266 [va,vb] (fun v=>sJ v (a-b)):=by
 have hva0:=hva;have hvb0:=hvb;obtain ⟨s,w,rfl,hva⟩:=hva;obtain ⟨s',w',rfl,hvb⟩:=hvb;refine zS fun h nx K H0 hK=>zM zP yL 100 fun hf => ?_;rw [fM.go,fM.t3,zA,fM.gq];refine H0.box (l:=[s,w]) rfl fun pa h1 nx1 H1 => ?_;refine H1.box (l:=[s',w']) rfl fun pb h2 nx2 H2 => ?_;refine H2.alloc fun p h3 nx3 H3 => ?_;rw [zA,fM.jv,H3.zi (k:=2) (n:=2) rfl rfl,H3.zi (k:=1) (n:=2) rfl rfl];refine zv1 hvb0 _ _ _ _ ?_;intro vn hvn _;rw [H3.zi (k:=2) (n:=2) rfl rfl,zN];refine zt1 hva0 hvn hk hza (by unfold Zs at hzb ⊢;rwa [Int.natAbs_neg]) _ _ _ _ ?_;rintro _ ⟨s2,w2,rfl,hc⟩ _;refine H3.qf (l2:=[s2,w2]) (k:=0) rfl rfl rfl fun h4 H4 => ?_;simp only [zF,zL];rw [fM.ret,H4.zi (k:=0) (n:=2) rfl rfl];exact hK _ _ _ _ _ H4 (uAgg hc.fix) ⟨_,_,rfl,hc⟩
theorem zov {va vb:AV} {a b:Int} {k:Nat} (hva:sJ va a) (hvb:sJ vb b) (hk:k<=90000) (hza:Zs k a) (hzb:Zs k b):Pure Tryz.prog B 229 [va,vb] (· = I (sgnZ (a-b))):=by
 have hva0:=hva;have hvb0:=hvb;obtain ⟨s,w,rfl,hva⟩:=hva;obtain ⟨s',w',rfl,hvb⟩:=hvb;refine zS fun h nx K H0 hK=>zM zP yL 100 fun hf => ?_;rw [uy.go,uy.t21,zA,uy.gq];refine H0.box (l:=[s,w]) rfl fun pa h1 nx1 H1 => ?_;refine H1.box (l:=[s',w']) rfl fun pb h2 nx2 H2 => ?_;have words:∀ {x4 x5 x6 x7:AV},IR.run uy.t19 (CS Tryz.prog B) 100 (fnO uy.res K) (yw uy.res K) (uy.fr (.agg [s,w]) (.agg [s',w']) (.ptr pa 0) (.ptr pb 0) x4 x5 x6 x7) h2 nx2=.ok True:=by
  intro x4 x5 x6 x7;rw [uy.t19,zA,uy.aT,H2.zi (k:=1) (n:=2) rfl rfl,H2.zi (k:=0) (n:=2) rfl rfl];refine zv4 hva0 hvb0 hk hza hzb _ _ _ _ ?_;intro vd hvd _;refine zra hvd _ _ _ _ ?_;rintro _ rfl _;simp only [zF,zL];rw [uy.ret];exact hK _ _ _ _ _ H2 (zK rfl) rfl
 rw [zA,zA,uy.jv,sFx,H2.load (k:=1) (i:=0+1) (v:=w) rfl rfl];rcases hva.two with ⟨rfl,rfl,a1,a2,e1⟩ | ⟨_,e1⟩
 case inr =>
  rw [e1];simp only [jL,zY];rw [zB,uy.v5,zE,zD];exact words
 rw [e1];simp only [yX];rw [sFx,H2.load (k:=0) (i:=0+1) (v:=w') rfl rfl];rcases hvb.two with ⟨rfl,rfl,b1,b2,e2⟩ | ⟨_,e2⟩
 case inr =>
  rw [e2,zV,zB,uy.v5,zE,zD];exact words
 rw [e2,zV,zB,uy.v5,zG,zA,zI,zA,uy.uq,sFx,H2.load (k:=1) (i:=0+0) rfl rfl,sFx,H2.load (k:=0) (i:=0+0) rfl rfl,qo,zB,uy.v6];have fin:∀ {z:Int},z=sgnZ (a-b)->K (I z) h2 nx2=.ok True:=fun e=>hK _ _ _ _ _ H2 (zK rfl) (by rw [e]);by_cases c:a<b
 ·rw [decide_eq_true c,zG,zA,uy.vk];simp only [zF,jJ,zL];rw [uy.ret];exact fin (by unfold sgnZ;rw [if_pos (by omega)])
 rw [decide_eq_false c,zE,zA,uy.fZ,sFx,H2.load (k:=1) (i:=0+0) rfl rfl,sFx,H2.load (k:=0) (i:=0+0) rfl rfl,bZ,zB,uy.v7];by_cases d:b<a
 ·rw [decide_eq_true d,zG,zA,uy.pq];simp only [zF,jJ,zL];rw [uy.ret];exact fin (by unfold sgnZ;rw [if_neg (by omega),if_pos (by omega)])
 ·rw [decide_eq_false d,zE,zD,zA,uy.fD];simp only [zF,zL];rw [uy.ret];exact fin (by unfold sgnZ;rw [if_neg (by omega),if_neg (by omega)])
theorem zow {va vb:AV} {a b:Int} {k:Nat} (hva:sJ va a) (hvb:sJ vb b) (hk:k<=90000) (hza:Zs k a) (hzb:Zs k b):Pure Tryz.prog B 198 [va,vb] (fun v=>sJ v (a*b)):=by
 have hva0:=hva;have hvb0:=hvb;obtain ⟨s,w,rfl,hva⟩:=hva;obtain ⟨s',w',rfl,hvb⟩:=hvb;have la:=hza.len;have lb:=hzb.len;refine zS fun h nx K H0 hK=>zM zP yL 100 fun hf => ?_;rw [uf.go,uf.t24,zA,uf.gq];refine H0.box (l:=[s,w]) rfl fun pa h1 nx1 H1 => ?_;refine H1.box (l:=[s',w']) rfl fun pb h2 nx2 H2 => ?_;refine H2.alloc fun p h3 nx3 H3 => ?_;have ret:∀ {h4 nx4 v z} {x0 x1 x2 x3 x5 x6 x7 x8 x9 x10 x11 x12 x13:AV},Hp h h4 nx4 [.arr p [I 0,.zf],.arr pb [s',w'],.arr pa [s,w]]->sJ v z->z=a*b->(zX 2 (.ptr p 0) v h4 nx4 fun v2 h3 n4=>yw uf.res K (uf.fr x0 x1 x2 x3 (.ptr p 0) x5 x6 x7 x8 x9 x10 x11 x12 x13) h3 n4)=.ok True:=fun H hc e=>by
  obtain ⟨s2,w2,rfl,hc⟩:=hc;refine H.qf (l2:=[s2,w2]) (k:=0) rfl rfl rfl fun h4 H4 => ?_;rw [uf.ret,H4.zi (k:=0) (n:=2) rfl rfl];exact hK _ _ _ _ _ H4 (uAgg hc.fix) ⟨_,_,rfl,e ▸ hc⟩
 have hsgn:(if (decide (a<0) != decide (b<0))=true then -((a.natAbs*b.natAbs:Nat):Int) else ((a.natAbs*b.natAbs:Nat):Int))=a*b:=by
  rw [<- Int.natAbs_mul];by_cases c1:a<0 <;> by_cases c2:b<0
  ·rw [decide_eq_true c1,decide_eq_true c2,if_neg (by decide)];have:=Int.mul_nonneg_of_nonpos_of_nonpos (show a<=0 by omega) (show b<=0 by omega);omega
  ·rw [decide_eq_true c1,decide_eq_false c2,if_pos (by decide)];have:=Int.mul_nonpos_of_nonpos_of_nonneg (show a<=0 by omega) (show 0<=b by omega);omega
  ·rw [decide_eq_false c1,decide_eq_true c2,if_pos (by decide)];have:=Int.mul_nonpos_of_nonneg_of_nonpos (show 0<=a by omega) (show b<=0 by omega);omega
  ·rw [decide_eq_false c1,decide_eq_false c2,if_neg (by decide)];have:=Int.mul_nonneg (show 0<=a by omega) (show 0<=b by omega);omega
 have words:(a≠0\/b≠0)->∀ {x5 x6 x7 x8 x9 x10 x11 x12 x13:AV},IR.run uf.t22 (CS Tryz.prog B) 100 (fnO uf.res K) (yw uf.res K) (uf.fr (.agg [s,w]) (.agg [s',w']) (.ptr pa 0) (.ptr pb 0) (.ptr p 0) x5 x6 x7 x8 x9 x10 x11 x12 x13) h3 nx3=.ok True:=by
  intro hne x5 x6 x7 x8 x9 x10 x11 x12 x13;rw [uf.t22,zA,uf.rF,H3.zi (k:=2) (n:=2) rfl rfl];refine xU hva0 _ _ _ _ ?_;rintro _ rfl _;rw [jC,jB,zA,uf.aT,H3.zi (k:=1) (n:=2) rfl rfl];refine xU hvb0 _ _ _ _ ?_;rintro _ rfl _;rw [jC,jB,zA,uf.sK,bNeq];refine zre (by omega) (by omega) (by omega) _ _ _ _ ?_;rintro _ rfl _;refine d7 _ _ _ _ ?_;intro v hv _;simp only [zF,zL];exact ret H3 hv hsgn
 rw [zA,zA,uf.jv,sFx,H3.load (k:=2) (i:=0+1) (v:=w) rfl rfl];rcases hva.two with ⟨rfl,rfl,a1,a2,e1⟩ | ⟨hz,e1⟩
 case inr =>
  rw [e1];simp only [jL,zY];rw [zB,uf.v11,zE,zD];exact words (.inl hz)
 rw [e1];simp only [yX];rw [sFx,H3.load (k:=1) (i:=0+1) (v:=w') rfl rfl];rcases hvb.two with ⟨rfl,rfl,b1,b2,e2⟩ | ⟨hz,e2⟩
 case inr =>
  rw [e2,zV,zB,uf.v11,zE,zD];exact words (.inr hz)
 rw [e2,zV,zB,uf.v11,zG,zA,uf.uq,sFx,H3.load (k:=2) (i:=0+0) rfl rfl,sFx,H3.load (k:=1) (i:=0+0) rfl rfl];refine zeg ⟨a1,a2⟩ _ _ _ _ ?_;rintro _ rfl _;rw [H3.load (k:=1) (i:=0+0) rfl rfl,zN,sFx,zN];refine zeg ⟨b1,b2⟩ _ _ _ _ ?_;rintro _ rfl _;refine zon (by omega) (by omega) _ _ _ _ ?_;rintro _ rfl _;rw [jC,jB,zA,uf.vk,ztx];by_cases c1:a.natAbs*b.natAbs / 18446744073709551616=0
 case neg =>
  rw [decide_eq_false c1];simp only [jL,zY];rw [zB,uf.v12,zE,zD];refine words ?_;rcases Nat.eq_zero_or_pos a.natAbs with q | q
  ·rw [q] at c1;simp at c1
  ·omega
 rw [decide_eq_true c1];simp only [yX];have hlt:a.natAbs*b.natAbs<18446744073709551616:=by
  rcases Nat.div_eq_zero_iff.1 c1 with q | q
  ·omega
  ·exact q
 rw [Zau hlt,show (AV.int .u64 9223372036854775807)=U 9223372036854775807 from rfl,uLeq,zV,zB,uf.v12];by_cases c2:a.natAbs*b.natAbs<=9223372036854775807
 case neg =>
  rw [decide_eq_false c2,zE,zD];refine words ?_;rcases Nat.eq_zero_or_pos a.natAbs with q | q
  ·rw [q] at c2;simp at c2
  ·omega
 rw [decide_eq_true c2,zG,zA,zA,uf.cu,sFx,H3.load (k:=2) (i:=0+0) rfl rfl,qo,sFx,H3.load (k:=1) (i:=0+0) rfl rfl,qo,bNeq,zB,uf.v13];by_cases c:(decide (a<0) != decide (b<0))=true
 ·rw [if_pos c] at hsgn;rw [c,zG,zA,uf.fZ,zca (by omega),uNeg (by omega),wR];simp only [zF,zL];exact ret H3 (uN (by omega)) hsgn
 ·rw [if_neg c] at hsgn;rw [show (decide (a<0) != decide (b<0))=false by simpa using c,zE,zD,zA,uf.fC,zca (by omega),wR];simp only [zF,zL];exact ret H3 (uN (by omega)) hsgn
theorem zce {a b:Int} {K:AV->OP} (ha : -9223372036854775808<=a/\a<=9223372036854775807) (hb:1<=b):zh .quo .int (I a) (I b) K=K (I (a.tdiv b)):=by
 have e:zh .quo .int (I a) (I b) K=(bif ieq b 0 then Out.no 5 else bn (IntKind.i64.wrap (a.tdiv b)) fun z=>K (.int .i64 z)):=rfl;have h0:ieq b 0=false:=by rw [qY];exact decide_eq_false (by omega)
 rw [e,h0,cond_false,j9,Go.IntWalk.i64_quo' a b ⟨ha.1,ha.2,hb⟩]
theorem zcf {a b:Int} {K:AV->OP} (hb:1<=b):zh .rem .int (I a) (I b) K=K (I (a.tmod b)):=by
 have e:zh .rem .int (I a) (I b) K=(bif ieq b 0 then Out.no 5 else bn (a.tmod b) fun z=>K (.int .i64 z)):=rfl;have h0:ieq b 0=false:=by rw [qY];exact decide_eq_false (by omega)
 rw [e,h0,cond_false,j9]
theorem Hp.zf9 {h0 h:T Blk} {nx:Pa} {L:List Ob} {o:Option Pa} {n bytes:Nat} {l:List AV} {z v:AV} {K:Kw Prop} (H:Hp h0 h nx (.gro o 1 n l::L)) (hn:n+1<=1000000) (hb:bytes*1000000<=70368744177664) (hv:v.cells=some [v]) (hs:xg v=true)
  (hK:∀ o' h' nx',Hp h0 h' nx' (.gro o' 1 (n+1) (l++[v])::L)->K (cZ o' 1 (n+1)) h' nx'=.ok True) :
  (yU 1 1 [z] [(0,1,v)] h nx fun v2 h3 n4=>rD 1 bytes (cZ o 1 n) v2 h3 n4 K)=.ok True:=by
 have fill:j8 (ny 1 [z]) [(0,1,v)]=some [v]:=by simp only [j8,hv];rfl
 refine H.yg (l:=[v]) fill fun id h1 n1 H1 => ?_;refine H1.appN (k:=1) (new:=[v]) (c:=1) rfl ((H1.own _ (Zal ..)).rd (n:=1) (e:=1) rfl) rfl (by simp [hs]) (by omega) hb hn fun o' h2 n2 _ H2 => ?_;exact hK o' h2 n2 (Hp.drop H2)
theorem zje {a b:List Nat} {N:Nat} (hN:0<N) (ha:Dg N a) {i:Nat}:a.getD i 0<N:=by
 by_cases c:i<a.length
 ·exact ha _ (Zaa (getD_some c))
 ·rw [Zad,List.getElem?_eq_none (by omega)];exact hN
theorem zga {a:List Nat} {i:Nat} (h:a.length<=i):a.getD i 0=0:=by rw [Zad,List.getElem?_eq_none h];rfl
theorem zek {a b:List Nat} (hda:Dg 1000000000 a) (hdb:Dg 1000000000 b) (ha:a.length<=100000) (hb:b.length<=100000) :
  Pure Tryz.prog B 215 [qj a,qj b] (fun v=>∃ Z:List Nat,v=qj Z/\Dg 1000000000 Z/\bv 1000000000 Z=bv 1000000000 a+bv 1000000000 b/\Z.length<=max a.length b.length+1):=by
 refine zS fun h nx K H0 hK=>zM zP yL 1000010 fun hf => ?_;rw [jg.go,jg.t24,zA,jg.gq,zA,jg.jv,zA,jg.uq,zA,zA,jg.vk,zI]
 generalize hM:max a.length b.length=M at *
 have hMa:a.length<=M:=by omega
 have hMb:b.length<=M:=by omega
 have hM':M<=100000:=by omega
 refine jg.zaz (fun m x3 x4 x5 h' nx'=>∃ (i c:Nat) (Z:List Nat) (o:Option Pa),x3=cZ o 1 i/\x4=I (c:Int)/\x5=I (i:Int)/\m+i=M+1/\Z.length=i/\Dg 1000000000 Z/\c<=1/\(m=0->c=0)/\bv 1000000000 Z+1000000000 ^ i*c=bv 1000000000 (a.take i)+bv 1000000000 (b.take i)/\Hp h h' nx' [.gro o 1 i (Z.map D)]) (m:=M+1) (by omega) ⟨0,0,[],none,rfl,rfl,rfl,rfl,rfl,fun _ h=>by simp at h,by omega,fun _=>rfl,by simp [bv],H0.zax 1⟩ ?_;rintro m z3 z4 z5 z6 z7 h3 nx3 R ⟨i,c,Z,o,rfl,rfl,rfl,hm,hZ,hd,hc,hc0,hs,H3⟩ hR;have hx:a.getD i 0<1000000000:=zje (b:=b) (by decide) hda;have hy:b.getD i 0<1000000000:=zje (b:=b) (by decide) hdb;have go:1<=m->jg.t5.run (CS Tryz.prog B) 1000010 ((fnO jg.res K).blk 0 (jg.t20.run (CS Tryz.prog B) 1000010 (fnO jg.res K) (yw jg.res K))) (jg.t14.run (CS Tryz.prog B) 1000010 ((fnO jg.res K).blk 0 (jg.t20.run (CS Tryz.prog B) 1000010 (fnO jg.res K) (yw jg.res K))) R) (jg.fr (qj a) (qj b) AV.zf (cZ o 1 i) (I (c:Int)) (I (i:Int)) z6 (.bool true)) h3 nx3=.ok True:=by
  intro m1;rw [jg.t5,zB,jg.v7,zG,zD,jg.t14,zA,zI,zA,jg.vz];refine zcd _ _ _ _ ?_;rintro _ rfl _;refine zcd _ _ _ _ ?_;rintro _ rfl _
  generalize hX:a.getD i 0=x at *
  generalize hY:b.getD i 0=y at *
  rw [qc (by omega),qc (by omega),zA,jg.dw,zcf (by omega),show ((x:Int)+(y:Int)+(c:Int)).tmod 1000000000=(((x+y+c)%1000000000:Nat):Int) by rw [Int.tmod_eq_emod_of_nonneg (by omega)];omega];refine H3.zf9 (v:=D ((x+y+c)%1000000000)) (by omega) (by decide) rfl rfl fun o' h4 n4 H4 => ?_;rw [jg.fC,zce (by omega) (by omega),show ((x:Int)+(y:Int)+(c:Int)).tdiv 1000000000=(((x+y+c) / 1000000000:Nat):Int) by rw [Int.tdiv_eq_ediv_of_nonneg (by omega)];omega,jg.fD,qc (by omega)];refine hR (m-1) _ _ _ _ _ _ _ (by omega) ⟨i+1,(x+y+c) / 1000000000,Z++[(x+y+c)%1000000000],o',rfl,rfl,rfl,by omega,by simp [hZ],hd.append (Dg.one (Zbb _ (by decide))),zb8 hx hy hc,fun q => ?_,?_,by rw [Zaj];exact H4⟩
  ·have ex:x=0:=by rw [<- hX];exact zga (by omega)
   have ey:y=0:=by rw [<- hY];exact zga (by omega)
   subst ex;subst ey;omega
  ·rw [gH,hZ,yK,yK,hX,hY,Zbr];exact zcb hs
 rw [jg.t15,zA,zA,jg.cu,jg.r4_0,jg.zua,dLen,qo];by_cases e1:i<a.length
 ·rw [decide_eq_true (by omega)];simp only [jM,j7];rw [jg.r4_1,jg.zll];simp only [jM,j7,zV];exact go (by omega)
 rw [decide_eq_false (by omega)];simp only [jE];rw [dLen,jg.r4_1,jg.zll];simp only [jE];rw [qo];by_cases e2:i<b.length
 ·rw [decide_eq_true (by omega)];simp only [zY,jM,j7,zV];exact go (by omega)
 rw [decide_eq_false (by omega)];simp only [zY,jE];rw [bZ];by_cases e3:0<c
 ·rw [decide_eq_true (by omega)];exact go (by omega)
 obtain rfl:c=0:=by omega
 rw [decide_eq_false (by omega),jg.t5,zB,jg.v7,zE,zZ,yG,jg.t20,zA,jg.sK];simp only [zF,zL];rw [jg.ret];refine hK _ _ _ _ _ H3 (H3.ah (k:=0) rfl (zjb Z)) ⟨Z,by rw [qj,hZ],hd,?_,by omega⟩;rw [Zae (by omega),Zae (by omega)] at hs;omega
theorem Hp.zel {h0 h:T Blk} {nx:Pa} {L:List Ob} {o:Option Pa} {n:Nat} {Z:List Nat} (H:Hp h0 h nx (.gro o 1 n (Z.map D)::L)) (hn:Z.length=n):∃ h',u5 h' h/\Hp h0 h' nx L/\af h' h (cZ o 1 n) (qj Z):=by
 obtain ⟨h',a,b,c⟩:=H.zvd (zjb Z);exact ⟨h',a,b,by rw [qj,hn];exact c⟩
theorem dW {a b:List Nat} (hda:Dg 1000000000 a) (hdb:Dg 1000000000 b) (ha:a.length<=100000) (hb:b.length<=a.length) (hv:bv 1000000000 b<=bv 1000000000 a) :
  Pure Tryz.prog B 217 [qj a,qj b] (· = qj (dg 1000000000 (bv 1000000000 a-bv 1000000000 b))):=by
 refine zS fun h nx K H0 hK=>zM zP yL 1000010 fun hf => ?_;rw [ji.go,ji.t31,zA,ji.gq,zA,ji.jv,zA,ji.uq,zA,zA,ji.vk,zI];refine ji.zlm (fun m x3 x4 x5 h' nx'=>∃ (i c:Nat) (Z:List Nat) (o:Option Pa),x3=cZ o 1 i/\x4=I (c:Int)/\x5=I (i:Int)/\m+i=a.length/\Z.length=i/\Dg 1000000000 Z/\c<=1/\bv 1000000000 Z+bv 1000000000 (b.take i)=bv 1000000000 (a.take i)+1000000000 ^ i*c/\Hp h h' nx' [.gro o 1 i (Z.map D)]) (m:=a.length) (by omega) ⟨0,0,[],none,rfl,rfl,rfl,rfl,rfl,fun _ h=>by simp at h,by omega,by simp [bv],H0.zax 1⟩ ?_;rintro m z3 z4 z5 z6 z7 z8 h3 nx3 R ⟨i,c,Z,o,rfl,rfl,rfl,hm,hZ,hd,hc,hs,H3⟩ hR;rw [ji.t22,zA,zA,ji.cu,dLen,qo];by_cases ci:i<a.length
 case neg =>
  rw [decide_eq_false (by omega),zB,ji.v7,zE,zZ,yG,ji.t27,zA,ji.zcu];obtain ⟨h5,hkp,H5,hF⟩:=H3.zel hZ;refine xK hkp (.cons hF .nil) ?_;refine dV hd (by omega) _ _ _ _ ?_;rintro _ rfl _;simp only [zF,zL];rw [ji.ret];refine hK _ _ _ _ _ H5 (zK (uB _)) ?_;rw [Zae (by omega),Zae (by omega)] at hs;have hlt:=pJ (b:=1000000000) (by decide) hd;rw [hZ] at hlt;have c0:c=0:=by
   rcases Nat.eq_zero_or_pos c with q | q
   ·exact q
   ·have:1000000000 ^ i*1<=1000000000 ^ i*c:=Zbu _ q;omega
  subst c0
  congr 2
  omega
 have ex:=getD_some (l:=a) (k:=i) ci;have hx:a.getD i 0<1000000000:=zje (b:=b) (by decide) hda;have hy:b.getD i 0<1000000000:=zje (b:=b) (by decide) hdb;rw [decide_eq_true (by omega),zB,ji.v7,zG,zD,zA,zI,zA,ji.vz,dIx (i:=i) rfl ci,dLd ex];refine zcd _ _ _ _ ?_;rintro _ rfl _;simp only [zN];rw [dLd ex];simp only [zN];rw [dIx (i:=i) rfl ci];simp only [zN];have hst:=mB (P:=1000000000 ^ i) hx hy hc hs (by decide)
 generalize hX:a.getD i 0=x at *
 generalize hY:b.getD i 0=y at *
 rw [fF (by omega),fF (by omega),zA,ji.dw,zA,zA,ji.fC,qo];have fin:∀ (z:Int) (k:Nat) (z7 z8:AV),z=(((x+1000000000-y-c)%1000000000:Nat):Int)->k=(if x<y+c then 1 else 0)->ji.t15.run (CS Tryz.prog B) 1000010 ((fnO ji.res K).blk 0 (ji.t27.run (CS Tryz.prog B) 1000010 (fnO ji.res K) (yw ji.res K))) (ji.t20.run (CS Tryz.prog B) 1000010 ((fnO ji.res K).blk 0 (ji.t27.run (CS Tryz.prog B) 1000010 (fnO ji.res K) (yw ji.res K))) R) (ji.fr (qj a) (qj b) AV.zf (cZ o 1 i) (I (k:Int)) (I (i:Int)) (I z) z7 z8) h3 nx3=.ok True:=by
  rintro _ k z7 z8 rfl hk;rw [<- hk] at hst;rw [ji.rJ];refine H3.zf9 (v:=D ((x+1000000000-y-c)%1000000000)) (by omega) (by decide) rfl rfl fun o' h4 n4 H4 => ?_;rw [ji.rY,qc (by omega)];refine hR (m-1) _ _ _ _ _ _ _ _ (by omega) ⟨i+1,k,Z++[(x+1000000000-y-c)%1000000000],o',rfl,rfl,rfl,by omega,by simp [hZ],hd.append (Dg.one (Zbb _ (by decide))),by rw [hk];split <;> omega,?_,by rw [Zaj];exact H4⟩;rw [gH,hZ,yK,yK,hX,hY,Zbr];exact hst
 by_cases d:x<y+c
 ·rw [decide_eq_true (by omega),zB,ji.v8,zG,zA,ji.dh,qc (by omega),ji.xu];exact fin _ 1 _ _ (by omega) (by rw [if_pos d])
 ·rw [decide_eq_false (by omega),zB,ji.v8,zE,zD];exact fin _ 0 _ _ (by omega) (by rw [if_neg d])
theorem sMkD {n:Nat} {x:Int} {h0 h:T Blk} {nx:Pa} {L:List Ob} {K:Kw Prop} (H:Hp h0 h nx L) (hx:x=(n:Int)) (hn:n<=1000000)
  (hK:∀ id h' nx',Hp h0 h' nx' (.arr id ((List.replicate n 0).map D)::L)->K (.sl id 0 n (some n) 1) h' nx'=.ok True):uG 1 8 [(I 0)] (I x) (I x) h nx K=.ok True :=
 H.mk1 n hx hx hn (by omega) fun id h' nx' H'=>hK id h' nx' (by rw [List.map_replicate];exact H')
theorem zgb {l:List Nat} {d:Nat} (hd:1<=d) (hdN:d<1000000000) (hl:Dg 1000000000 l) (hs:l.length<=100000):Pure Tryz.prog B 268 [qj l,D d] (· = .tup [qj (dg 1000000000 (bv 1000000000 l / d)),D (bv 1000000000 l%d)]):=by
 refine zS fun h nx K H0 hK=>zM zP yL 1000010 fun hf => ?_;rw [uj.go,uj.t24,zA,uj.gq,zA,uj.jv,dLen];refine sMkD (n:=l.length) H0 rfl (by omega) fun id h1 nx1 H1 => ?_;rw [zA,uj.uq,zA,zA,uj.vk,dLen,fF (by omega),zI];refine uj.zaz (fun m x5 x6 h' nx'=>∃ (r:Nat) (Q:List Nat),x5=D r/\x6=I ((m:Int)-1)/\m<=l.length/\Q.length=l.length-m/\Dg 1000000000 Q/\r<d/\bv 1000000000 (l.drop m)=bv 1000000000 Q*d+r/\Hp h h' nx' [.arr id ((List.replicate m 0++Q).map D)]) (m:=l.length) (by omega) ⟨0,[],rfl,rfl,by omega,by simp,fun _ h=>by simp at h,by omega,by simp [bv],by simpa using H1⟩ ?_;rintro m z5 z6 z7 z8 h3 nx3 R ⟨r,Q,rfl,rfl,hm,hQ,hdQ,hr,hv,H3⟩ hR;rw [uj.t15,zA,zA,uj.cu,eH];cases m with
 | zero =>
  rw [decide_eq_false (by omega),zB,uj.v8,zE,zZ,yG,zA,uj.sK];simp only [List.replicate_zero,Zbg] at H3;obtain ⟨h5,hkp,H5,hF⟩:=H3.letD (n:=l.length) (by omega);refine xK hkp (.cons hF .nil) ?_;refine dV hdQ (by omega) _ _ _ _ ?_;rintro _ rfl _;simp only [zF,zL];rw [uj.ret];refine hK _ _ _ _ _ H5 (gD (zK (uB _)) (zK rfl)) ?_;rw [List.drop_zero] at hv;obtain ⟨a1,a2⟩:=zvs hv hr;rw [a1,a2]
 | succ k =>
  have ea:=getD_some (l:=l) (k:=k) (by omega);have haW:=jP (k:=k) (by decide) hl;have e0:l.drop k=l.getD k 0::l.drop (k+1):=by
   have ea:=ea;rw [List.getElem?_eq_getElem (by omega)] at ea;rw [Zbt (by omega),Option.some.inj ea]
  generalize hX:l.getD k 0=x at *
  have hdm:r*1000000000+x=(r*1000000000+x) / d*d+(r*1000000000+x)%d:=by
   rw [Zbx _ d];exact (Nat.div_add_mod _ _).symm
  have hqW:(r*1000000000+x) / d<1000000000:=by
   rw [Nat.div_lt_iff_lt_mul (by omega)];have:(r+1)*1000000000<=d*1000000000:=Zas _ hr;omega
  have hrd:(r*1000000000+x)%d<d:=Zbb _ (by omega);have eq1:((r:Int)*1000000000+(x:Int)).tdiv (d:Int)=(((r*1000000000+x) / d:Nat):Int):=by rw [Int.tdiv_eq_ediv_of_nonneg (by omega)];simp
  have eq2:((r:Int)*1000000000+(x:Int)).tmod (d:Int)=(((r*1000000000+x)%d:Nat):Int):=by rw [Int.tmod_eq_emod_of_nonneg (by omega)];simp
  rw [decide_eq_true (by omega),zB,uj.v8,zG,zD,zA,zI,zA,uj.vz,au (by omega),dIx (i:=k) (by omega) (by omega),dLd ea,qc (by omega),zA,uj.dw];rw [zce (by omega) (by omega),eq1,sIx (i:=k) (by omega) (by omega)];rw [zoq] at H3;refine H3.store (k:=0) rfl (by simp) rfl fun h4 H4 => ?_;rw [uj.fC,zcf (by omega),eq2]
  generalize hQ':(r*1000000000+x) / d=q at *
  simp only [List.set_cons_zero] at H4;rw [Zaj,Zcc,kD (by simp)] at H4;rw [uj.fD,fF (by omega)];refine hR k _ _ _ _ _ _ (by omega) ⟨_,q::Q,rfl,by congr 1;omega,by omega,by simp;omega,?_,hrd,?_,by simpa using H4⟩
  ·exact (Dg.one hqW).append hdQ
  ·rw [e0,bv,bv];exact one_step hv hdm
theorem mulG {a b:List Nat} {xb:AV} {h0 h:T Blk} {nx p0:Pa} {L0:List Ob} {K:Kw Prop} (ha:Dg 1000000000 a) (hb:Dg 1000000000 b) (la:a.length<=100000) (lb:b.length<=100000) (H0:Hp h0 h nx L0)
  (hlen:∀ K:AV->OP,sLen xb K=K (I b.length)) (hix:∀ (h':T Blk) (nx':Pa) (X:Ob) (j:Nat),Hp h0 h' nx' (X::L0)->j<b.length->∃ q:AV,(∀ op:AV->OP,zT 1 xb (I (j:Int)) op=op q)/\∀ op:AV->OP,zC q h' op=op (D (b.getD j 0)))
  (hK:∀ h' nx',Hp h0 h' nx' L0->K (qj (dg 1000000000 (bv 1000000000 a*bv 1000000000 b))) h' nx'=.ok True) :
  (CS Tryz.prog B).fn 218 p0 [qj a,xb] h nx K=.ok True:=by
 refine jA (p:=.of 218) (K:=K) (zM zP yL 1000010 fun hf => ?_) fun _ _ _ _ q=>q;rw [yc.go,yc.t37,zA,yc.gq,zA,yc.jv,dLen,hlen,qc (by omega)];refine sMkD (n:=a.length+b.length) H0 (by omega) (by omega) fun id h1 nx1 H1 => ?_;rw [zA,zA,yc.uq,zI];refine yc.zw2 (fun m x4 h' nx'=>∃ (i:Nat) (Z:List Nat),x4=I (i:Int)/\m+i=a.length/\Z.length=i+b.length/\Dg 1000000000 Z/\bv 1000000000 Z=bv 1000000000 (a.take i)*bv 1000000000 b/\Hp h0 h' nx' (.arr id ((Z++List.replicate m 0).map D)::L0)) (m:=a.length) (by omega) ⟨0,List.replicate b.length 0,rfl,rfl,by simp,Dg.rep (by decide),by rw [zop];simp [bv],by rw [List.replicate_append_replicate,Nat.add_comm];exact H1⟩ ?_;rintro m z4 z5 z6 z7 z8 z9 h3 nx3 R ⟨i,Z,rfl,hm,hZ,hd,hs,H3⟩ hR;rw [yc.t29,zA,zA,yc.vk,dLen,qo];by_cases ci:i<a.length
 case neg =>
  have hm0:m=0:=by omega
  subst hm0;rw [decide_eq_false (by omega),zB,yc.v8,zE,zZ,yG,zA,yc.zw3];simp only [List.replicate_zero,Zbd] at H3;obtain ⟨h5,hkp,H5,hF⟩:=H3.letD (n:=a.length+b.length) (by omega);refine xK hkp (.cons hF .nil) ?_;refine dV hd (by omega) _ _ _ _ ?_;rintro _ rfl _;simp only [zF,zL];rw [yc.ret];rw [Zae (by omega)] at hs;rw [hs];exact hK _ _ H5
 have ex:=getD_some (l:=a) (k:=i) ci;have hxW:=jP (k:=i) (by decide) ha;rw [decide_eq_true (by omega),zB,yc.v8,zG,zD,zA,zI,zA,yc.pq,zA,zA,yc.vz,zI];obtain ⟨k,rfl⟩:∃ k,m=k+1:=⟨m-1,by omega⟩
 generalize hx:a.getD i 0=x at *
 refine yc.zln (fun n x5 x6 h' nx'=>∃ (j c:Nat) (N:List Nat),x5=D c/\x6=I (j:Int)/\n+j=b.length/\c<1000000000/\N.length=i+j/\Dg 1000000000 N/\bv 1000000000 N+1000000000 ^ i*1000000000 ^ j*c=bv 1000000000 (Z.take (i+j))+1000000000 ^ i*(x*bv 1000000000 (b.take j))/\Hp h0 h' nx' (.arr id ((N++(Z.drop (i+j)++List.replicate (k+1) 0)).map D)::L0)) (m:=b.length) (by omega) ⟨0,0,Z.take i,rfl,rfl,rfl,by decide,by simp [hZ],hd.take,by simp [bv],by rw [Zcb,<- Zar,List.take_append_drop];exact H3⟩ ?_;rintro n y5 y6 y7 y9 h4 nx4 R4 ⟨j,c,N,rfl,rfl,hn,hc,hN,hdN,hsN,H4⟩ hR4;rw [yc.t19,zA,zA,yc.dw,hlen,qo];by_cases cj:j<b.length
 case neg =>
  have hj:j=b.length:=by omega
  subst hj;rw [show Z.drop (i+b.length)=[] from List.drop_eq_nil_of_le (by omega),Zbg,Zce] at H4;have ld:((N++0::List.replicate k 0).map D)[i+b.length]? = some (D 0):=dGet (by rw [List.getElem?_append_right (by omega),show i+b.length-N.length=0 by omega];rfl);rw [decide_eq_false (by omega),zB,yc.v9,zE,zZ,yG,yc.zav,yc.aJ,yc.eU,hlen,qc (by omega),yc.zaj,yc.eX,hlen,qc (by omega),sIx (i:=i+b.length) (by omega) (by omega),H4.load (k:=0) rfl ld,qc (by omega),sIx (i:=i+b.length) (by omega) (by omega),show ((0:Nat):Int)+(c:Int)=(c:Int) by omega];refine H4.store (k:=0) rfl (by simp;omega) rfl fun h5 H5 => ?_;rw [yc.zcv,qc (by omega)];refine hR k _ _ _ _ _ _ _ _ (by omega) ⟨i+1,N++[c],by congr 1,by omega,by simp;omega,hdN.append (Dg.one hc),?_,?_⟩
  ·rw [gH,hN,Nat.pow_add,hsN,Zae (by omega),Zae (by omega),hs,yK,hx,Zaw,Zbi]
  ·simp only [List.set_cons_zero] at H5;rw [Zaj,Zcc,kD (by rw [Zao];omega)] at H5;rw [Zaj,Zaj,Zar];exact H5
 obtain ⟨yq,ey1,ey2⟩:=hix h4 nx4 _ j H4 cj;have hyW:=jP (k:=j) (by decide) hb;have ez:=getD_some (l:=Z) (k:=i+j) (by omega);have hzW:=jP (k:=i+j) (by decide) hd
 generalize hy:b.getD j 0=y at *
 generalize hz:Z.getD (i+j) 0=z at *
 have hp:x*y<=999999998000000001:=Zav (show x<=999999999 by omega) (show y<=999999999 by omega);have hsplit:Z.drop (i+j)++List.replicate (k+1) 0=z::(Z.drop (i+(j+1))++List.replicate (k+1) 0):=by
  rw [Zbt (show i+j<Z.length by omega),Zca];rw [List.getElem?_eq_getElem (show i+j<Z.length by omega)] at ez;rw [Option.some.inj ez];rfl
 rw [hsplit] at H4;have ld:((N++z::(Z.drop (i+(j+1))++List.replicate (k+1) 0)).map D)[i+j]? = some (D z):=dGet (by rw [List.getElem?_append_right (by omega),show i+j-N.length=0 by omega];rfl);have ep:(x:Int)*(y:Int)=((x*y:Nat):Int):=by simp
 rw [decide_eq_true (by omega),zB,yc.v9,zG,zD,zA,zI,zA,yc.xu,yc.r7_0,yc.zam,qc (by omega),sIx (i:=i+j) (by omega) (by omega),H4.load (k:=0) rfl ld,yc.r7_1,yc.zan,dIx (i:=i) rfl ci,dLd ex,ey1,ey2,au (by rw [ep];omega),ep]
 generalize hpp:x*y=p at *
 rw [qc (by omega),yc.r7_2,yc.zao,qc (by omega),zA,yc.bT,qc (by omega),zcf (by omega),show ((z:Int)+(p:Int)+(c:Int)).tmod 1000000000=(((p+z+c)%1000000000:Nat):Int) by rw [Int.tmod_eq_emod_of_nonneg (by omega)];omega,sIx (i:=i+j) (by omega) (by omega)];refine H4.store (k:=0) rfl (by simp;omega) rfl fun h5 H5 => ?_;rw [yc.fD,zce (by omega) (by omega),show ((z:Int)+(p:Int)+(c:Int)).tdiv 1000000000=(((p+z+c) / 1000000000:Nat):Int) by rw [Int.tdiv_eq_ediv_of_nonneg (by omega)];omega,yc.rF,qc (by omega)];refine hR4 (n-1) _ _ _ _ _ _ (by omega) ⟨j+1,(p+z+c) / 1000000000,N++[(p+z+c)%1000000000],rfl,by congr 1,by omega,?_,by simp;omega,hdN.append (Dg.one (Zbb _ (by decide))),?_,?_⟩
 ·omega
 ·rw [gH,hN,Nat.pow_add,show i+(j+1)=(i+j)+1 by omega,yK,yK,hz,hy,Zbr,Nat.pow_add];exact zf8 hsN hpp.symm
 ·simp only [List.set_cons_zero] at H5;rw [Zaj,Zcc,kD (by rw [Zao];omega)] at H5;rw [Zaj,Zaj,Zar];exact H5
theorem zem {a b:List Nat} (ha:Dg 1000000000 a) (hb:Dg 1000000000 b) (la:a.length<=100000) (lb:b.length<=100000):Pure Tryz.prog B 218 [qj a,qj b] (· = qj (dg 1000000000 (bv 1000000000 a*bv 1000000000 b))):=by
 refine zS fun h nx K H0 hK => ?_;refine mulG ha hb la lb H0 (fun K=>dLen) (fun h' nx' X j _ hj=>⟨_,fun op=>dIx (i:=j) rfl hj,fun op=>dLd (getD_some hj)⟩) fun h' nx' H' => ?_;exact hK _ _ _ _ _ H' (zK (uB _)) rfl
def S9 (n:Nat):Prop:=(dg 1000000000 n).length<=99990
theorem zcg {b d:Nat} (hb:2<=b) (h:(dg b d).length=1):dg b d=[d]/\d<b:=by
 have od:=jU hb d;have e1:dg b d=[d]:=by
  cases hdd:dg b d with
  | nil=>rw [hdd] at h;cases h
  | cons x l =>
   rw [hdd] at h;have:l=[]:=by cases l with
    | nil=>rfl
    | cons y l=>simp at h
   subst this;have:=od.1;rw [hdd] at this;simp [bv] at this;rw [this]
 exact ⟨e1,od.2.1 d (by rw [e1];simp)⟩
theorem mA {a d:Nat} (hd:1<=d) (hdN:d<1000000000) (ha:S9 a) (hds:S9 d):Pure Tryz.prog B 213 [qj (dg 1000000000 a),qj (dg 1000000000 d)] (· = .tup [qj (dg 1000000000 (a / d)),qj (dg 1000000000 (a%d))]):=by
 refine zS fun h nx K H0 hK=>zM zP yL 1000010 fun hf => ?_;have oa:=jU (b:=1000000000) (by decide) a;have od:=jU (b:=1000000000) (by decide) d;unfold S9 at ha hds;rw [wu.go,wu.t109,zA,wu.gq,zA,zA,wu.jv];refine zjc (by omega) (by omega) _ _ _ _ ?_;rintro _ rfl _;rw [zei (by decide),qo,zB,wu.v21];by_cases c:a<d
 ·rw [decide_eq_true (by rw [cmpN,if_pos c];decide),zG,zA,wu.uq];simp only [zF,zL];rw [wu.ret];refine hK _ _ _ _ _ H0 (gD (.zfr 1) (zK (uB _))) ?_;rw [Nat.div_eq_of_lt c,Zau c,jN];rfl
 rw [decide_eq_false (by rw [cmpN,if_neg c];split <;> decide),zE,zD,zA,zA,wu.pq,dLen,fA,zB,wu.v22];have hla:(dg 1000000000 d).length<=(dg 1000000000 a).length:=by
  rcases Nat.lt_or_ge (dg 1000000000 a).length (dg 1000000000 d).length with q | q
  ·have:=kK (b:=1000000000) (by decide) q;omega
  ·exact q
 have hld1:1<=(dg 1000000000 d).length:=zej (by omega);by_cases c1:(dg 1000000000 d).length=1
 ·obtain ⟨e1,hdW⟩:=zcg (b:=1000000000) (by decide) c1;rw [decide_eq_true (by omega),zG,e1,zA,wu.vz,dIx (l:=[d]) (i:=0) (j:=0) rfl (by simp),dLd (x:=d) rfl];refine zgb hd hdW oa.2.1 (by omega) _ _ _ _ ?_;rintro _ rfl _;rw [jC,jB,oa.1,zA,wu.dw];have hml:=Zbb a (show 0<d by omega);refine H0.yg (l:=[D (a%d)]) rfl fun tb h1 nx1 H1 => ?_;obtain ⟨h2,hkp,H2,hF⟩:=H1.letD (l:=[a%d]) (n:=1) rfl;refine xK hkp (.cons hF .nil) ?_;refine dV (Dg.one (by omega)) (by simp) _ _ _ _ ?_;rintro _ rfl _;simp only [zF,zL];rw [wu.ret];exact hK _ _ _ _ _ H2 (gD (zK (uB _)) (zK (uB _))) (by simp [bv])
 exact absurd (by rw [kA (by decide) (by omega),Nat.div_eq_of_lt hdN,jN];rfl) c1
def Z9 (k:Nat) (z:Int):Prop:=z.natAbs<1000000000 ^ k
theorem Z9.len {k:Nat} {z:Int} (h:Z9 k z):(dg 1000000000 z.natAbs).length<=k:=kB (by decide) h
theorem Z9.mono {k m:Nat} {z:Int} (h:Z9 k z) (hkm:k<=m):Z9 m z:=Zcj h (Zck (by decide) hkm)
theorem Z9.mul {k m:Nat} {a b:Int} (ha:Z9 k a) (hb:Z9 m b):Z9 (k+m) (a*b):=by
 unfold Z9 at *
 rw [Int.natAbs_mul,Nat.pow_add];exact Zcm ha hb
theorem Z9.add {k:Nat} {a b:Int} (ha:Z9 k a) (hb:Z9 k b):Z9 (k+1) (a+b):=by
 unfold Z9 at *
 have h1:=Int.natAbs_add_le a b;have h2:1000000000 ^ (k+1)=1000000000 ^ k*1000000000:=Zbr ..;omega
theorem uQ {b x y:Nat} (hb:2<=b) (h:x<=y):(dg b x).length<=(dg b y).length:=by
 rcases Nat.lt_or_ge (dg b y).length (dg b x).length with q | q
 ·have:=kK (b:=b) hb q;omega
 ·exact q
theorem kQ (z:Int):rW z=.agg [.bool (decide (z<0)),qj (dg 1000000000 z.natAbs)]:=rfl
theorem zrf {a b:Int} {k:Nat} (hk:k<=90000) (ha:Z9 k a) (hb:Z9 k b):Pure Tryz.prog B 131 [rW a,rW b] (· = rW (a+b)):=by
 have oa:=jU (b:=1000000000) (by decide) a.natAbs;have ob:=jU (b:=1000000000) (by decide) b.natAbs;have la:=ha.len;have lb:=hb.len;rw [kQ,kQ];refine zS fun h nx K H0 hK=>zM zP yL 100 fun hf => ?_;rw [qy.go,qy.t15,zA,qy.gq];refine H0.box (l:=[.bool (decide (a<0)),qj (dg 1000000000 a.natAbs)]) rfl fun pa h1 nx1 H1 => ?_;refine H1.box (l:=[.bool (decide (b<0)),qj (dg 1000000000 b.natAbs)]) rfl fun pb h2 nx2 H2 => ?_;refine H2.alloc fun p h3 nx3 H3 => ?_;rw [zA,zA,qy.jv,sFx,H3.load (k:=2) (i:=0+0) rfl rfl,sFx,H3.load (k:=1) (i:=0+0) rfl rfl,bEql,zB,qy.v5];by_cases c:decide (a<0)=decide (b<0)
 ·rw [show (decide (a<0)==decide (b<0))=true by rw [c];exact beq_self_eq_true _,zG,zA,qy.uq,sFx,H3.load (k:=2) (i:=0+0) rfl rfl,sFx,H3.load (k:=2) (i:=0+1) rfl rfl,sFx,H3.load (k:=1) (i:=0+1) rfl rfl];refine zek oa.2.1 ob.2.1 (by omega) (by omega) _ _ _ _ ?_;rintro _ ⟨Z,rfl,hdZ,hvZ,hlZ⟩ _;rw [oa.1,ob.1] at hvZ;rw [H3.load (k:=2) (i:=0+0) rfl rfl,zN,sFx,zN];refine gV hdZ (by omega) _ _ _ _ ?_;rintro _ rfl _;have e:(if decide (a<0) then -(bv 1000000000 Z:Int) else (bv 1000000000 Z:Int))=a+b:=by
   rw [hvZ];by_cases d:a<0
   ·have d2:b<0:=by rw [decide_eq_true d] at c;exact of_decide_eq_true c.symm
    rw [decide_eq_true d,if_pos rfl];omega
   ·have d2:¬ b<0:=by rw [decide_eq_false d] at c;exact of_decide_eq_false c.symm
    rw [decide_eq_false d,if_neg (by decide)];omega
  rw [e];refine H3.qf (l2:=[.bool (decide (a+b<0)),qj (dg 1000000000 (a+b).natAbs)]) (k:=0) rfl rfl rfl fun h4 H4 => ?_;simp only [zF,zL];rw [qy.ret,H4.zi (k:=0) (n:=2) rfl rfl];exact hK _ _ _ _ _ H4 dAgg rfl
 ·rw [show (decide (a<0)==decide (b<0))=false from beq_eq_false_iff_ne.2 c,zE,zD,zA,zA,qy.pq,sFx,H3.load (k:=2) (i:=0+1) rfl rfl,sFx,H3.load (k:=1) (i:=0+1) rfl rfl];refine zjc (by omega) (by omega) _ _ _ _ ?_;rintro _ rfl _;rw [zei (by decide),eH,zB,qy.v6];by_cases d:b.natAbs<=a.natAbs
  ·rw [decide_eq_true (by unfold cmpN;rw [if_neg (by omega)];split <;> decide),zG,zA,qy.vz,sFx,H3.load (k:=2) (i:=0+0) rfl rfl,sFx,H3.load (k:=2) (i:=0+1) rfl rfl,sFx,H3.load (k:=1) (i:=0+1) rfl rfl];refine dW oa.2.1 ob.2.1 (by omega) (uQ (by decide) d) (by rw [oa.1,ob.1];exact d) _ _ _ _ ?_;rintro _ rfl _;have os:=jU (b:=1000000000) (by decide) (a.natAbs-b.natAbs);have ls:=uQ (b:=1000000000) (by decide) (show a.natAbs-b.natAbs<=a.natAbs by omega);rw [oa.1,ob.1,H3.load (k:=2) (i:=0+0) rfl rfl,zN,sFx,zN];refine gV os.2.1 (by omega) _ _ _ _ ?_;rintro _ rfl _;have e:(if decide (a<0) then -(bv 1000000000 (dg 1000000000 (a.natAbs-b.natAbs)):Int) else (bv 1000000000 (dg 1000000000 (a.natAbs-b.natAbs)):Int))=a+b:=by
    rw [os.1];by_cases d:a<0
    ·have d2:¬ b<0:=fun q=>c (by rw [decide_eq_true d,decide_eq_true q]);rw [decide_eq_true d,if_pos rfl];omega
    ·have d2:b<0:=Classical.not_not.1 fun q=>c (by rw [decide_eq_false d,decide_eq_false q]);rw [decide_eq_false d,if_neg (by decide)];omega
   rw [e];refine H3.qf (l2:=[.bool (decide (a+b<0)),qj (dg 1000000000 (a+b).natAbs)]) (k:=0) rfl rfl rfl fun h4 H4 => ?_;simp only [zF,zL];rw [qy.ret,H4.zi (k:=0) (n:=2) rfl rfl];exact hK _ _ _ _ _ H4 dAgg rfl
  ·rw [decide_eq_false (by unfold cmpN;rw [if_pos (by omega)];decide),zE,zD,zA,qy.xu,sFx,H3.load (k:=1) (i:=0+0) rfl rfl,sFx,H3.load (k:=1) (i:=0+1) rfl rfl,sFx,H3.load (k:=2) (i:=0+1) rfl rfl];refine dW ob.2.1 oa.2.1 (by omega) (uQ (by decide) (by omega)) (by rw [oa.1,ob.1];omega) _ _ _ _ ?_;rintro _ rfl _;have os:=jU (b:=1000000000) (by decide) (b.natAbs-a.natAbs);have ls:=uQ (b:=1000000000) (by decide) (show b.natAbs-a.natAbs<=b.natAbs by omega);rw [oa.1,ob.1,H3.load (k:=1) (i:=0+0) rfl rfl,zN,sFx,zN];refine gV os.2.1 (by omega) _ _ _ _ ?_;rintro _ rfl _;have e:(if decide (b<0) then -(bv 1000000000 (dg 1000000000 (b.natAbs-a.natAbs)):Int) else (bv 1000000000 (dg 1000000000 (b.natAbs-a.natAbs)):Int))=a+b:=by
    rw [os.1];by_cases d:b<0
    ·have d2:¬ a<0:=fun q=>c (by rw [decide_eq_true d,decide_eq_true q]);rw [decide_eq_true d,if_pos rfl];omega
    ·have d2:a<0:=Classical.not_not.1 fun q=>c (by rw [decide_eq_false d,decide_eq_false q]);rw [decide_eq_false d,if_neg (by decide)];omega
   rw [e];refine H3.qf (l2:=[.bool (decide (a+b<0)),qj (dg 1000000000 (a+b).natAbs)]) (k:=0) rfl rfl rfl fun h4 H4 => ?_;simp only [zF,zL];rw [qy.ret,H4.zi (k:=0) (n:=2) rfl rfl];exact hK _ _ _ _ _ H4 dAgg rfl
theorem zgc {a:Int} {k:Nat} (hk:k<=90000) (ha:Z9 k a):Pure Tryz.prog B 212 [rW a] (· = rW (-a)):=by
 have oa:=jU (b:=1000000000) (by decide) a.natAbs;have la:=ha.len;rw [kQ];refine zS fun h nx K H0 hK=>zM zP yL 100 fun hf => ?_;rw [fO.go,fO.t3,zA,fO.gq];refine H0.box (l:=[.bool (decide (a<0)),qj (dg 1000000000 a.natAbs)]) rfl fun pa h1 nx1 H1 => ?_;refine H1.alloc fun p h3 nx3 H3 => ?_;rw [zA,fO.jv,sFx,H3.load (k:=1) (i:=0+0) rfl rfl,j4,sFx,H3.load (k:=1) (i:=0+1) rfl rfl];refine gV oa.2.1 (by omega) _ _ _ _ ?_;rintro _ rfl _;have e:(if !decide (a<0) then -(bv 1000000000 (dg 1000000000 a.natAbs):Int) else (bv 1000000000 (dg 1000000000 a.natAbs):Int)) = -a:=by
  rw [oa.1];by_cases d:a<0
  ·rw [decide_eq_true d,if_neg (by decide)];omega
  ·rw [decide_eq_false d,if_pos (by decide)];omega
 rw [e];refine H3.qf (l2:=[.bool (decide (-a<0)),qj (dg 1000000000 (-a).natAbs)]) (k:=0) rfl rfl rfl fun h4 H4 => ?_;simp only [zF,zL];rw [fO.ret,H4.zi (k:=0) (n:=2) rfl rfl];exact hK _ _ _ _ _ H4 dAgg rfl
theorem xO {a b:Int} {k m:Nat} (hk:k<=90000) (hm:m<=90000) (ha:Z9 k a) (hb:Z9 m b):Pure Tryz.prog B 132 [rW a,rW b] (· = rW (a*b)):=by
 have oa:=jU (b:=1000000000) (by decide) a.natAbs;have ob:=jU (b:=1000000000) (by decide) b.natAbs;have la:=ha.len;have lb:=hb.len;rw [kQ,kQ];refine zS fun h nx K H0 hK=>zM zP yL 100 fun hf => ?_;rw [fP.go,fP.t3,zA,fP.gq];refine H0.box (l:=[.bool (decide (a<0)),qj (dg 1000000000 a.natAbs)]) rfl fun pa h1 nx1 H1 => ?_;refine H1.box (l:=[.bool (decide (b<0)),qj (dg 1000000000 b.natAbs)]) rfl fun pb h2 nx2 H2 => ?_;refine H2.alloc fun p h3 nx3 H3 => ?_;rw [zA,fP.jv,sFx,H3.load (k:=2) (i:=0+0) rfl rfl,sFx,H3.load (k:=1) (i:=0+0) rfl rfl,bNeq,sFx,H3.load (k:=2) (i:=0+1) rfl rfl,sFx,H3.load (k:=1) (i:=0+1) rfl rfl];refine zem oa.2.1 ob.2.1 (by omega) (by omega) _ _ _ _ ?_;rintro _ rfl _;rw [bNeq,zN,H3.load (k:=1) (i:=0+0) rfl rfl,zN,sFx,zN,H3.load (k:=2) (i:=0+0) rfl rfl,zN,sFx,zN,oa.1,ob.1];have om:=jU (b:=1000000000) (by decide) (a.natAbs*b.natAbs);have lm:(dg 1000000000 (a.natAbs*b.natAbs)).length<=k+m:=kB (by decide) (by rw [Nat.pow_add];exact Zcm ha hb);refine gV om.2.1 (by omega) _ _ _ _ ?_;rintro _ rfl _;have e:(if (decide (a<0) != decide (b<0)) then -(bv 1000000000 (dg 1000000000 (a.natAbs*b.natAbs)):Int) else (bv 1000000000 (dg 1000000000 (a.natAbs*b.natAbs)):Int))=a*b:=by
  rw [om.1];rcases Int.lt_or_le a 0 with d | d <;> rcases Int.lt_or_le b 0 with d2 | d2
  ·rw [decide_eq_true d,decide_eq_true d2,if_neg (by decide),Int.natCast_mul,show (a.natAbs:Int) = -a by omega,show (b.natAbs:Int) = -b by omega,Int.neg_mul_neg]
  ·rw [decide_eq_true d,decide_eq_false (by omega),if_pos (by decide),Int.natCast_mul,show (a.natAbs:Int) = -a by omega,show (b.natAbs:Int)=b by omega,Int.neg_mul,Int.neg_neg]
  ·rw [decide_eq_false (by omega),decide_eq_true d2,if_pos (by decide),Int.natCast_mul,show (a.natAbs:Int)=a by omega,show (b.natAbs:Int) = -b by omega,Int.mul_neg,Int.neg_neg]
  ·rw [decide_eq_false (by omega),decide_eq_false (by omega),if_neg (by decide),Int.natCast_mul,show (a.natAbs:Int)=a by omega,show (b.natAbs:Int)=b by omega]
 rw [e];refine H3.qf (l2:=[.bool (decide (a*b<0)),qj (dg 1000000000 (a*b).natAbs)]) (k:=0) rfl rfl rfl fun h4 H4 => ?_;simp only [zF,zL];rw [fP.ret,H4.zi (k:=0) (n:=2) rfl rfl];exact hK _ _ _ _ _ H4 dAgg rfl
theorem zkt {a b:Nat} (hbN:b<1000000000) (ha:S9 a) (hb:S9 b):Pure Tryz.prog B 208 [qj (dg 1000000000 a),qj (dg 1000000000 b)] (· = qj (dg 1000000000 (Nat.gcd a b))):=by
 refine zS fun h nx K H0 hK=>zM zP yL (b+100) fun hf => ?_;rw [qw.go,qw.t14,zA,qw.gq,zA,zI];refine qw.t9_L (fun m x0 x1 h' nx'=>∃ x y:Nat,x0=qj (dg 1000000000 x)/\x1=qj (dg 1000000000 y)/\m=y/\y<1000000000/\S9 x/\S9 y/\Nat.gcd x y=Nat.gcd a b/\h'=h/\nx'=nx) (m:=b) (by omega) ⟨a,b,rfl,rfl,rfl,hbN,ha,hb,rfl,rfl,rfl⟩ ?_;rintro m z0 z1 z3 z4 h3 nx3 R ⟨x,y,rfl,rfl,rfl,hmN,hx,hy,hg,rfl,rfl⟩ hR;rw [qw.t8,zA,zA,qw.jv,dLen,bZ];by_cases c:m=0
 ·subst c;rw [Nat.gcd_zero_right] at hg;rw [jN,decide_eq_false (by simp),zB,qw.v4,zE,zZ,yG,zA,qw.xu];simp only [zF,zL];rw [qw.ret,hg];exact hK _ _ _ _ _ H0 (zK (uB _)) rfl
 ·have hl:=zej c;rw [decide_eq_true (by omega),zB,qw.v4,zG,zD,zI,zA,qw.cu];refine mA (by omega) hmN hx hy _ _ _ _ ?_;rintro _ rfl _;have hlt:=Zbb x (show 0<m by omega);rw [jC,jB,qw.fZ];refine hR (x%m) _ _ _ _ _ _ hlt ⟨m,x%m,rfl,rfl,rfl,by omega,hy,Zbk (uQ (by decide) (by omega)) hy,?_,rfl,rfl⟩;rw [<- hg,Nat.gcd_comm x m,Nat.gcd_rec m x,Nat.gcd_comm]
theorem zv5 {a b:Nat} (ha:a<=9223372036854775807) (hb:b<=9223372036854775807):Pure Tryz.prog B 210 [I (a:Int),I (b:Int)] (· = I ((Nat.gcd a b:Nat):Int)):=by
 refine zS fun h nx K H0 hK=>zM zP yL (b+100) fun hf => ?_;rw [xq.go,xq.t12,zA,xq.gq,zA,zI];refine xq.t7_L (fun m x0 x1 h' nx'=>∃ x y:Nat,x0=I (x:Int)/\x1=I (y:Int)/\m=y/\y<=9223372036854775807/\Nat.gcd x y=Nat.gcd a b/\h'=h/\nx'=nx) (m:=b) (by omega) ⟨a,b,rfl,rfl,rfl,hb,rfl,rfl,rfl⟩ ?_;rintro m z0 z1 z3 h3 nx3 R ⟨x,y,rfl,rfl,rfl,hy,hg,rfl,rfl⟩ hR;rw [xq.t6,zA,zA,xq.jv,bZ];by_cases c:m=0
 ·subst c;rw [Nat.gcd_zero_right] at hg;rw [decide_eq_false (by omega),zB,xq.v3,zE,zZ,yG,zA,xq.fC];simp only [zF,zL];rw [xq.ret,hg];exact hK _ _ _ _ _ H0 (zK rfl) rfl
 ·have hlt:=Zbb x (show 0<m by omega);rw [decide_eq_true (by omega),zB,xq.v3,zG,zD,zI,xq.cu,zcf (by omega),show (x:Int).tmod (m:Int)=((x%m:Nat):Int) by rw [Int.tmod_eq_emod_of_nonneg (by omega)];simp];refine hR (x%m) _ _ _ _ _ hlt ⟨m,x%m,rfl,rfl,rfl,by omega,?_,rfl,rfl⟩;rw [<- hg,Nat.gcd_comm x m,Nat.gcd_rec m x,Nat.gcd_comm]
theorem dT {z:Int} (hz : -9223372036854775808<=z/\z<=9223372036854775807):Pure Tryz.prog B 134 [I z] (· = rW z):=by
 refine zS fun h nx K H0 hK=>zM zP yL 9223372036854775900 fun hf => ?_;have hN:9223372036854775808<9223372036854775900:=by decide
 generalize 9223372036854775900=N at hN ⊢
 rw [jy.go,jy.t25,zA,jy.gq];refine H0.alloc fun p h1 nx1 H1 => ?_;rw [zA,jy.jv,zA,jy.uq,qo,zA,zI];refine jy.zaf (fun m x0 x2 h' nx'=>∃ (y:Int) (i:Nat) (Z:List Nat) (o:Option Pa),x0=I y/\x2=cZ o 1 i/\m=y.natAbs/\m<=9223372036854775808 /\ -9223372036854775808<=y/\y<=9223372036854775807/\Z.length=i/\Dg 1000000000 Z/\bv 1000000000 Z+1000000000 ^ i*m=z.natAbs/\i<=3/\m*1000000000 ^ i<=9223372036854775808/\Hp h h' nx' [.gro o 1 i (Z.map D),.arr p [.bool false,.zf]]) (m:=z.natAbs) (by omega) ⟨z,0,[],none,rfl,rfl,rfl,by omega,hz.1,hz.2,rfl,fun _ h=>by simp at h,by simp [bv],by omega,by simp;omega,H1.zax 1⟩ ?_;rintro m z0 z2 z4 z5 z6 h3 nx3 R ⟨y,i,Z,o,rfl,rfl,rfl,hm,hy1,hy2,hZ,hd,hs,hi3,hb,H3⟩ hR;rw [jy.t17,zA,zA,jy.vk,fE];by_cases c:y=0
 ·subst c;simp only [Int.natAbs_zero,Nat.mul_zero,Zcb] at hs;rw [decide_eq_true rfl,Zah,zB,jy.v5,zE,zZ,yG,jy.t21,zA,jy.rY];obtain ⟨h5,hkp,H5,hF⟩:=H3.zel hZ;refine xK hkp (.cons (.bool _) (.cons hF .nil)) ?_;refine gV hd (by omega) _ _ _ _ ?_;rintro _ rfl _;have e:(if decide (z<0) then -(bv 1000000000 Z:Int) else (bv 1000000000 Z:Int))=z:=by
   rw [hs];by_cases d:z<0
   ·rw [decide_eq_true d,if_pos rfl];omega
   ·rw [decide_eq_false d,if_neg (by decide)];omega
  rw [e];refine H5.qf (l2:=[.bool (decide (z<0)),qj (dg 1000000000 z.natAbs)]) (k:=0) rfl rfl rfl fun h4 H4 => ?_;simp only [zF,zL];rw [jy.ret,H4.zi (k:=0) (n:=2) rfl rfl];exact hK _ _ _ _ _ H4 dAgg rfl
 ·have i2:i<=2:=by
   rcases Nat.lt_or_ge 2 i with q | q
   ·exfalso
    have e:i=3:=by omega
    subst e;have:1*1000000000 ^ 3<=y.natAbs*1000000000 ^ 3:=Zas _ (by omega);omega
   ·exact q
  have et:(y.tmod 1000000000).natAbs=y.natAbs%1000000000:=by rw [Int.natAbs_tmod];rfl
  have eq:(y.tdiv 1000000000).natAbs=y.natAbs / 1000000000:=by rw [Int.natAbs_tdiv];rfl
  have hml:=Zbb y.natAbs (show 0<1000000000 by decide);have hdv:y.natAbs / 1000000000<y.natAbs:=Nat.div_lt_self (by omega) (by decide);have hmd:=Nat.mod_add_div y.natAbs 1000000000;have fin:∀ (z5 z6:AV) (w:Int),w=((y.natAbs%1000000000:Nat):Int)->jy.t13.run (CS Tryz.prog B) N (((fnO jy.res K).blk 0 (jy.t21.run (CS Tryz.prog B) N (fnO jy.res K) (yw jy.res K))).blk 1 R) R (jy.fr (I y) (.ptr p 0) (cZ o 1 i) (.bool (decide (z<0))) (I w) z5 z6) h3 nx3=.ok True:=by
   rintro z5 z6 _ rfl;rw [jy.t13,zA,jy.xu];refine H3.zf9 (v:=D (y.natAbs%1000000000)) (by omega) (by decide) rfl rfl fun o' h4 n4 H4 => ?_;rw [jy.bT,zce ⟨hy1,hy2⟩ (by omega)];refine hR _ _ _ _ _ _ _ _ (by rw [eq];exact hdv) ⟨y.tdiv 1000000000,i+1,Z++[y.natAbs%1000000000],o',rfl,rfl,rfl,by omega,by omega,by omega,by simp [hZ],hd.append (Dg.one hml),?_,by omega,?_,by rw [Zaj];exact H4⟩
   ·rw [eq,gH,hZ,Zbr,Zbw,Zbi,<- Zbj,hmd];exact hs
   ·rw [eq,Zbr,Zbx (1000000000 ^ i),<- Zbi];exact Zbk (Zas _ (by omega)) hb
  rw [decide_eq_false c,Zak,zB,jy.v5,zG,zD,zI,zA,jy.pq,zcf (by omega),zA,zA,jy.vz,qo,zB,jy.v6];by_cases d:y.tmod 1000000000<0
  ·rw [decide_eq_true d,zG,jy.dw,fF (by omega)];exact fin _ _ _ (by omega)
  ·rw [decide_eq_false d,zE,zD];exact fin _ _ _ (by omega)
theorem oH (s:List UInt8) {K:AV->OP}:qC (.str s) K=K (I s.length):=by
 show (bP s.length fun n=>K (.int .i64 (.ofNat n)))=_;rw [yP];rfl
theorem tCat {a b:List UInt8} {K:AV->OP} (h:a.length+b.length<=1000000):zh .add .str (.str a) (.str b) K=K (.str (a++b)):=by
 show (bif Nat.ble (a.length+b.length) 1000000 then K (.str (a++b)) else .no 5)=_;rw [Zab h];rfl
theorem tSub {s:List UInt8} {a b:Nat} {x y:Int} {K:AV->OP} (hx:x=(a:Int)) (hy:y=(b:Int)) (hab:a<=b) (hb:b<=s.length):gX (.str s) (some (I x)) (some (I y)) K=K (.str ((s.drop a).take (b-a))):=by
 subst hx;subst hy
 show (match bnd (some (I (b:Int))) s.length s.length with
   | none=>Out.no 18
   | some h=>match bnd (some (I (a:Int))) h 0 with
    | none=>.no 18
    | some l=>K (.str ((s.drop l).take (h-l))))=_
 rw [qM hb]
 dsimp only
 rw [qM hab]
theorem zdg {s:List UInt8} {a:Nat} {x:Int} {K:AV->OP} (hx:x=(a:Int)) (ha:a<=s.length):gX (.str s) (some (I x)) none K=K (.str (s.drop a)):=by
 subst hx
 show (match bnd (some (I (a:Int))) s.length 0 with
    | none=>Out.no 18
    | some l=>K (.str ((s.drop l).take (s.length-l))))=_
 rw [qM ha]
 dsimp only
 rw [Zae (by rw [List.length_drop];omega)]
theorem tTo {s:List UInt8} {b:Nat} {y:Int} {K:AV->OP} (hy:y=(b:Int)) (hb:b<=s.length):gX (.str s) none (some (I y)) K=K (.str (s.take b)):=by
 subst hy
 show (match bnd (some (I (b:Int))) s.length s.length with
   | none=>Out.no 18
   | some h=>K (.str ((s.drop 0).take (h-0))))=_
 rw [qM hb];rfl
def dch (x:Nat):UInt8:=UInt8.ofNat (48+x)
def rH (n w:Nat):List Nat:=dg 10 n++List.replicate (w-(dg 10 n).length) 0
def bG (n w:Nat):List UInt8:=(rH n w).reverse.map dch
theorem zrg:∀ n<10,(([48,49,50,51,52,53,54,55,56,57]:List UInt8).drop n).take 1=[dch n]:=by decide +kernel
theorem zku {y w:Nat} (h:0<y\/0<w):rH y w=y%10::rH (y / 10) (w-1):=by
 unfold rH;rcases Nat.eq_zero_or_pos y with e | e
 ·subst e;obtain ⟨v,rfl⟩:∃ v,w=v+1:=⟨w-1,by omega⟩;rw [Nat.zero_div,jN]
  rfl
 ·rw [kA (by decide) (by omega),Zca,Zbh,show w-((dg 10 (y / 10)).length+1)=w-1-(dg 10 (y / 10)).length by omega]
theorem zkv:rH 0 0=[]:=by unfold rH;rw [jN];rfl
theorem zgd {n w:Nat} (hn:n<10 ^ 19) (hw:w<=19):(rH n w).length<=19:=by
 have:=kB (b:=10) (by decide) hn;unfold rH;rw [Zaf,List.length_replicate];omega
theorem xB {n w:Nat} (hn:n<=9223372036854775807) (hw:w<=19):Pure Tryz.prog B 211 [I (n:Int),I (w:Int)] (· = .str (bG n w)):=by
 refine zS fun h nx K H0 hK=>zM zP yL (n+w+10) fun hf => ?_;rw [ug.go,ug.t16,zA,ug.gq,zA,ug.jv,zA,zI];refine ug.zw4 (fun m x0 x3 h' nx'=>∃ (y:Nat) (A:List Nat),x0=I (y:Int)/\x3=.str (A.reverse.map dch)/\m=y+(w-A.length)/\y<=9223372036854775807/\rH n w=A++rH y (w-A.length)/\h'=h/\nx'=nx) (m:=n+w) (by omega) ⟨n,[],rfl,rfl,rfl,hn,rfl,rfl,rfl⟩ ?_;rintro m z0 z3 z4 h3 nx3 R ⟨y,A,rfl,rfl,hm,hy,he,rfl,rfl⟩ hR;have hlen:=zgd (n:=n) (w:=w) (by omega) hw;have hAl:A.length<=19:=by
  have:=congrArg List.length he;rw [Zaf] at this;omega
 have go:0<y\/0<w-A.length->ug.t3.run (CS Tryz.prog B) (n+w+10) ((fnO ug.res K).blk 0 (ug.t13.run (CS Tryz.prog B) (n+w+10) (fnO ug.res K) (yw ug.res K))) (ug.t8.run (CS Tryz.prog B) (n+w+10) ((fnO ug.res K).blk 0 (ug.t13.run (CS Tryz.prog B) (n+w+10) (fnO ug.res K) (yw ug.res K))) R) (ug.fr (I (y:Int)) (I (w:Int)) (.str []) (.str (A.reverse.map dch)) (.bool true)) h3 nx3=.ok True:=by
  intro hp;have hst:=zku hp;rw [hst] at he;have e1:(y:Int).tmod 10=((y%10:Nat):Int):=by rw [Int.tmod_eq_emod_of_nonneg (by omega)];omega
  have e2:(y:Int).tdiv 10=((y / 10:Nat):Int):=by rw [Int.tdiv_eq_ediv_of_nonneg (by omega)];omega
  have hA1:A.length<=18:=by
   have:=congrArg List.length he;rw [Zaf,Zbh] at this;omega
  rw [ug.t3,zB,ug.v4,zG,zD,ug.t8,zI,zA,ug.fZ,zcf (by omega),e1,zcf (by omega),e1,qc (by omega),tSub (a:=y%10) (b:=y%10+1) rfl (by omega) (by omega) (by simp;omega),Nat.add_sub_cancel_left,zrg _ (Zbb _ (by decide)),tCat (by simp;omega),ug.pq,zce (by omega) (by omega),e2];refine hR (y / 10+(w-(A.length+1))) _ _ _ _ _ (by omega) ⟨y / 10,A++[y%10],rfl,by simp,by rw [Zaf];rfl,by omega,by rw [he,Zar];simp [Nat.sub_sub],rfl,rfl⟩
 rw [ug.t9,zA,zA,ug.uq,ug.oL,ug.oM,bZ];by_cases c:0<y
 ·rw [decide_eq_true (by omega)];simp only [jM,j7,zV];exact go (.inl c)
 rw [decide_eq_false (by omega)];simp only [jE];rw [oH,qo];simp only [zY];by_cases d:A.length<w
 ·rw [decide_eq_true (by simp;omega)];exact go (.inr (by omega))
 obtain rfl:y=0:=by omega
 rw [show w-A.length=0 by omega,zkv,Zbd] at he;rw [decide_eq_false (by simp;omega),ug.t3,zB,ug.v4,zE,zZ,yG,ug.t13,zA,ug.bT];simp only [zF,zL];rw [ug.ret];exact hK _ _ _ _ _ H0 (zK rfl) (by rw [bG,he])
theorem zge (b:Nat):∀ k,bv b (List.replicate k 0)=0
 | 0=>rfl
 | k+1=>by rw [Zce,bv,zge b k];simp
theorem d6 (n w:Nat):bv 10 (rH n w)=n:=by
 unfold rH;rw [kW,(jU (b:=10) (by decide) n).1,zge,Nat.mul_zero,Zcb]
theorem wY (n w:Nat):Dg 10 (rH n w):=(jU (b:=10) (by decide) n).2.1.append (Dg.rep (by decide))
theorem mI {n w:Nat} (h:n<10 ^ w):(rH n w).length=w:=by
 have:=kB (b:=10) (by decide) h;unfold rH;rw [Zaf,List.length_replicate];omega
theorem zgf {n:Nat} (h:n≠0):rH n 1=dg 10 n:=by
 have e:1<=(dg 10 n).length:=by rw [kA (by decide) h];simp
 unfold rH;rw [show 1-(dg 10 n).length=0 by omega];simp
theorem zkw {x V:Nat} (hx:x<1000000000) (hV:V≠0):dg 10 (x+1000000000*V)=rH x 9++dg 10 V:=by
 have oV:=jU (b:=10) (by decide) V;have e:bv 10 (rH x 9++dg 10 V)=x+1000000000*V:=by
  rw [kW,d6,mI (by omega),oV.1]
 rw [<- e];refine (vV (by decide) ((wY x 9).append oV.2.1) ?_).symm;have hn:dg 10 V≠[]:=by rw [kA (by decide) hV];simp
 have:=oV.2.2;unfold Nm at *
 rw [List.getLast?_append];cases hl:(dg 10 V).getLast? with
 | none=>exact absurd (List.getLast?_eq_none_iff.1 hl) hn
 | some y=>rw [hl] at this;exact this
theorem zkx {x V:Nat} (hx:x<1000000000) (hV:V≠0):bG (x+1000000000*V) 1=bG V 1++bG x 9:=by
 have hs:x+1000000000*V≠0:=by omega
 unfold bG;rw [zgf hs,zgf hV,zkw hx hV];simp
def cO (z:Int):List UInt8:=(if z<0 then [45] else [])++bG z.natAbs 1
theorem pF {n k:Nat} (h:n<1000000000 ^ k):(bG n 1).length<=9*k+1:=by
 have e:1000000000 ^ k=10 ^ (9*k):=by rw [Nat.pow_mul]
 have:=kB (b:=10) (n:=9*k) (by decide) (by rw [<- e];exact h);unfold bG rH;simp;omega
theorem zdh:bG 0 1=[48]:=by unfold bG rH;rw [jN];rfl
theorem zen {z:Int} {k:Nat} (hk:k<=90000) (hz:Z9 k z):Pure Tryz.prog B 133 [rW z] (· = .str (cO z)):=by
 have oz:=jU (b:=1000000000) (by decide) z.natAbs;have lz:=hz.len;rw [kQ];refine zS fun h nx K H0 hK=>zM zP yL 1000010 fun hf => ?_;rw [gm.go,gm.t30,zA,gm.gq];refine H0.box (l:=[.bool (decide (z<0)),qj (dg 1000000000 z.natAbs)]) rfl fun pa h1 nx1 H1 => ?_;rw [zA,zA,gm.jv,sFx,H1.load (k:=0) (i:=0+1) rfl rfl,dLen,fA,zB,gm.v5];by_cases c:z.natAbs=0
 ·rw [c,jN,decide_eq_true (by rfl),zG,zA,gm.uq];simp only [zF,zL];rw [gm.ret];refine hK _ _ _ _ _ H1 (zK rfl) ?_;rw [cO,c,if_neg (by omega),zdh];rfl
 have hn1:=zej c;obtain ⟨n,hn⟩:∃ n,(dg 1000000000 z.natAbs).length=n+1:=⟨(dg 1000000000 z.natAbs).length-1,by omega⟩;have htop:=getD_some (l:=dg 1000000000 z.natAbs) (k:=n) (by omega);have htW:=jP (k:=n) (by decide) oz.2.1;have ht1:(dg 1000000000 z.natAbs).getD n 0≠0:=by
  have:=oz.2.2;unfold Nm at this;rw [List.getLast?_eq_getElem?,hn,Nat.add_sub_cancel,htop] at this;intro q;rw [q] at this;exact this rfl
 rw [decide_eq_false (by omega),zE,zD,zA,gm.pq,sFx,H1.load (k:=0) (i:=0+1) rfl rfl,sFx,H1.load (k:=0) (i:=0+1) rfl rfl,dLen,fF (by omega),dIx (i:=n) (by omega) (by omega),dLd htop];refine xB (w:=1) (by omega) (by omega) _ _ _ _ ?_;rintro _ rfl _;rw [zA,zA,gm.vz,sFx,H1.load (k:=0) (i:=0+1) rfl rfl,dLen,fF (by omega),zI];have hdrop:∀ i,i<n+1->(dg 1000000000 z.natAbs).drop i=(dg 1000000000 z.natAbs).getD i 0::(dg 1000000000 z.natAbs).drop (i+1):=fun i hi=>by
  have ea:=getD_some (l:=dg 1000000000 z.natAbs) (k:=i) (by omega);rw [List.getElem?_eq_getElem (by omega)] at ea;rw [Zbt (by omega),Option.some.inj ea]
 have hlast:(dg 1000000000 z.natAbs).drop (n+1)=[]:=List.drop_of_length_le (by omega);refine gm.zaz (fun m x3 x4 h' nx'=>m<=n/\x3=.str (bG (bv 1000000000 ((dg 1000000000 z.natAbs).drop m)) 1)/\x4=I ((m:Int)-1)/\bv 1000000000 ((dg 1000000000 z.natAbs).drop m)≠0/\h'=h1/\nx'=nx1) (m:=n) (by omega) ⟨by omega,by rw [hdrop n (by omega),hlast];simp [bv],by congr 1;omega,by rw [hdrop n (by omega),hlast];simpa [bv] using ht1,rfl,rfl⟩ ?_;rintro m z3 z4 z6 h3 nx3 R ⟨hm,rfl,rfl,hV,rfl,rfl⟩ hR;rw [gm.t15,zA,zA,gm.dw,eH];cases m with
 | zero =>
  rw [List.drop_zero,oz.1,decide_eq_false (show ¬ ((0:Int)<=((0:Nat):Int)-1) by omega),zB,gm.v6,zE,zZ,yG,zA,zA,gm.sK,sFx,H1.load (k:=0) (i:=0+0) rfl rfl,zB,gm.v7];have hl:=pF hz;by_cases d:z<0
  ·rw [decide_eq_true d,zG,zA,gm.rY,tCat (by simp;omega)];simp only [zF,zL];rw [gm.ret];exact hK _ _ _ _ _ H1 (zK rfl) (by rw [cO,if_pos d])
  ·rw [decide_eq_false d,zE,zD,zA,gm.aj];simp only [zF,zL];rw [gm.ret];exact hK _ _ _ _ _ H1 (zK rfl) (by rw [cO,if_neg d];rfl)
 | succ m =>
  have ea:=getD_some (l:=dg 1000000000 z.natAbs) (k:=m) (by omega);have haW:=jP (k:=m) (by decide) oz.2.1;have hl:(bG (bv 1000000000 ((dg 1000000000 z.natAbs).drop (m+1))) 1).length<=9*k+1:=by
   refine pF (Nat.lt_of_le_of_lt ?_ hz);have e:=zor (b:=1000000000) (l:=dg 1000000000 z.natAbs) (k:=m+1) (by omega);rw [oz.1] at e;have e2:1*bv 1000000000 ((dg 1000000000 z.natAbs).drop (m+1))<=1000000000 ^ (m+1)*bv 1000000000 ((dg 1000000000 z.natAbs).drop (m+1)):=Zas _ (Nat.pow_pos (by decide));omega
  rw [decide_eq_true (show (0:Int)<=((m+1:Nat):Int)-1 by omega),zB,gm.v6,zG,zD,zA,zI,gm.xu,sFx,H1.load (k:=0) (i:=0+1) rfl rfl,dIx (i:=m) (by omega) (by omega),dLd ea];refine xB (w:=9) (by omega) (by omega) _ _ _ _ ?_;rintro _ rfl _;have h9:(bG ((dg 1000000000 z.natAbs).getD m 0) 9).length=9:=by unfold bG;rw [Zao,Zcf,mI (by omega)]
  have e:bv 1000000000 ((dg 1000000000 z.natAbs).drop m)=(dg 1000000000 z.natAbs).getD m 0+1000000000*bv 1000000000 ((dg 1000000000 z.natAbs).drop (m+1)):=by rw [hdrop m (by omega),bv]
  rw [tCat (by omega),gm.fD,fF (by omega)];refine hR m _ _ _ _ _ (by omega) ⟨by omega,by rw [e,zkx haW hV],by congr 1;omega,by rw [e];omega,rfl,rfl⟩
theorem tIdx {s:List UInt8} {i:Nat} {x:Int} {c:UInt8} {K:AV->OP} (hx:x=(i:Int)) (hc:s[i]? = some c):zcw (.str s) (I x) K=K (.int .u8 (c.toNat:Int)):=by
 subst hx
 show (match s[i]? with
   | some b=>bP b.toNat fun n=>K (.int .u8 (.ofNat n))
   | none=>.no 16)=_
 rw [hc]
 dsimp only
 rw [yP];rfl
theorem zeo {x:Nat} (h:x<10):(dch x).toNat=48+x:=by
 have:∀ x<10,(dch x).toNat=48+x:=by decide +kernel
 exact this x h
theorem zgg {l:List Nat} {i:Nat} (hi:i<l.length):bv 10 (l.take (i+1)).reverse=l.getD i 0+10*bv 10 (l.take i).reverse:=by
 rw [Zax,getD_some hi];simp [bv]
theorem mD {l:List Nat} (h:Dg 10 l):bv 10 l.reverse<10 ^ l.length:=by
 have:=pJ (b:=10) (l:=l.reverse) (by decide) (fun x hx=>h x (by simpa using hx))
 rwa [Zcf] at this
theorem zch {l:List Nat} (hd:Dg 10 l) (hl:l.length<=18):Pure Tryz.prog B 209 [.str (l.map dch)] (· = I ((bv 10 l.reverse:Nat):Int)):=by
 refine zS fun h nx K H0 hK=>zM zP yL 100 fun hf => ?_;rw [qh.go,qh.t18,zA,qh.gq,zA,qh.jv,zA,zA,qh.uq,zI];refine qh.zlo (fun m x2 x3 h' nx'=>∃ i:Nat,x2=I ((bv 10 (l.take i).reverse:Nat):Int)/\x3=I (i:Int)/\m+i=l.length/\h'=h/\nx'=nx) (m:=l.length) (by omega) ⟨0,rfl,rfl,rfl,rfl,rfl⟩ ?_;rintro m z2 z3 z4 h3 nx3 R ⟨i,rfl,rfl,hm,rfl,rfl⟩ hR;rw [qh.t10,zA,zA,qh.vk,oH,Zao,qo];by_cases c:i<l.length
 ·have hx:=jP (k:=i) (by decide) hd;have ec:(l.map dch)[i]? = some (dch (l.getD i 0)):=by rw [List.getElem?_map,getD_some c];rfl
  have hb:=mD (l:=l.take i) hd.take;rw [Zaq,Zbo (by omega)] at hb;have hp:10 ^ i<=10 ^ 17:=Zck (by decide) (by omega);have hs:=zgg c;rw [decide_eq_true (by omega),zB,qh.v4,zG,zD,zA,zI,qh.pq,au (by omega),tIdx (i:=i) rfl ec,zeo hx,zca (by omega),qc (by omega),fF (by omega),qh.dw,qc (by omega)];exact hR (m-1) _ _ _ _ _ (by omega) ⟨i+1,by congr 1;omega,rfl,by omega,rfl,rfl⟩
 ·rw [decide_eq_false (by omega),zB,qh.v4,zE,zZ,yG,zA,qh.fG];simp only [zF,zL];rw [qh.ret];exact hK _ _ _ _ _ H0 (zK rfl) (by rw [Zae (by omega)])
theorem zox {l:List Nat} {neg:Bool} (hd:Dg 10 l) (hl1:1<=l.length) (hl:l.length<=900000):Pure Tryz.prog B 205 [.str ((if neg then [45] else [])++l.map dch)] (· = rW (if neg then -((bv 10 l.reverse:Nat):Int) else ((bv 10 l.reverse:Nat):Int))):=by
 refine zS fun h nx K H0 hK=>zM zP yL 1000010 fun hf => ?_;rw [gy.go,gy.t23,zA,gy.gq];refine H0.alloc fun p h1 nx1 H1 => ?_;have main:∀ x4:AV,gy.t20.run (CS Tryz.prog B) 1000010 (fnO gy.res K) (yw gy.res K) (gy.fr (.str (l.map dch)) (.ptr p 0) (.bool neg) .u x4 .u) h1 nx1=.ok True:=by
  intro x4;rw [gy.t20,zA,gy.pq,zA,zI];refine gy.zw5 (fun m x0 x3 h' nx'=>∃ (i:Nat) (Z:List Nat) (o:Option Pa),x0=.str ((l.take m).map dch)/\x3=cZ o 1 i/\1<=m/\m+9*i=l.length/\Z.length=i/\Dg 1000000000 Z/\bv 1000000000 Z+1000000000 ^ i*bv 10 (l.take m).reverse=bv 10 l.reverse/\Hp h h' nx' [.gro o 1 i (Z.map D),.arr p [.bool false,.zf]]) (m:=l.length) (by omega) ⟨0,[],none,by rw [List.take_length],rfl,hl1,rfl,rfl,fun _ h=>by simp at h,by simp [bv],H1.zax 1⟩ ?_;rintro m z0 z3 z5 h3 nx3 R ⟨i,Z,o,rfl,rfl,hm1,hm,hZ,hdZ,hs,H3⟩ hR;have hlm:(l.take m).length=m:=by rw [Zaq];omega
  rw [gy.t14,zA,zA,gy.vz,oH,Zao,hlm,bZ];by_cases c:9<m
  ·have hlt:(l.take m).take (m-9)=l.take (m-9):=by rw [List.take_take,Zbo (by omega)]
   have hpl:((l.take m).drop (m-9)).length=9:=by rw [List.length_drop];omega
   have hpd:Dg 10 ((l.take m).drop (m-9)):=fun x hx=>hd x (List.mem_of_mem_take (List.mem_of_mem_drop hx));have hpb:=mD hpd;rw [hpl] at hpb;have hsp:bv 10 (l.take m).reverse=bv 10 ((l.take m).drop (m-9)).reverse+1000000000*bv 10 (l.take (m-9)).reverse:=by
    have e:l.take m=l.take (m-9)++(l.take m).drop (m-9):=by rw [<- hlt,List.take_append_drop]
    conv=>lhs;rw [e]
    rw [List.reverse_append,kW,Zcf,hpl]
   rw [decide_eq_true (by omega),zB,gy.v5,zG,zD,zI,zA,gy.dh,oH,Zao,hlm,fF (by omega),zdg (a:=m-9) (by omega) (by rw [Zao,hlm];omega),<- List.map_drop];refine zch hpd (by omega) _ _ _ _ ?_;rintro _ rfl _;refine H3.zf9 (v:=D (bv 10 ((l.take m).drop (m-9)).reverse)) (by omega) (by decide) rfl rfl fun o' h4 n4 H4 => ?_;rw [gy.xu,oH,Zao,hlm,fF (by omega),tTo (b:=m-9) (by omega) (by rw [Zao,hlm];omega),<- List.map_take,hlt];refine hR (m-9) _ _ _ _ _ (by omega) ⟨i+1,Z++[bv 10 ((l.take m).drop (m-9)).reverse],o',rfl,rfl,by omega,by omega,by simp [hZ],hdZ.append (Dg.one hpb),?_,by rw [Zaj];exact H4⟩;rw [gH,hZ,Zbr,Zbw,Zbi,<- Zbj,<- hsp];exact hs
  ·have hpd:Dg 10 (l.take m):=hd.take;have hpb:=mD hpd;rw [hlm] at hpb;have hp:10 ^ m<=10 ^ 9:=Zck (by decide) (by omega);rw [decide_eq_false (by omega),zB,gy.v5,zE,zZ,yG,zA,gy.rF];refine zch hpd (by omega) _ _ _ _ ?_;rintro _ rfl _;refine H3.zf9 (v:=D (bv 10 (l.take m).reverse)) (by omega) (by decide) rfl rfl fun o' h4 n4 H4 => ?_;rw [show Z.map D++[D (bv 10 (l.take m).reverse)]=(Z++[bv 10 (l.take m).reverse]).map D by rw [Zaj];rfl] at H4;obtain ⟨h5,hkp,H5,hF⟩:=H4.zel (by simp [hZ]);refine xK hkp (.cons (.bool _) (.cons hF .nil)) ?_;refine gV (hdZ.append (Dg.one (by omega))) (by simp;omega) _ _ _ _ ?_;rintro _ rfl _;rw [gH,hZ,hs]
   generalize (if neg=true then -((bv 10 l.reverse:Nat):Int) else ((bv 10 l.reverse:Nat):Int))=z at *
   refine H5.qf (l2:=[.bool (decide (z<0)),qj (dg 1000000000 z.natAbs)]) (k:=0) rfl rfl rfl fun h6 H6 => ?_;simp only [zF,zL];rw [gy.ret,H6.zi (k:=0) (n:=2) rfl rfl];exact hK _ _ _ _ _ H6 dAgg rfl
 cases neg with
 | true =>
  rw [if_pos rfl,zA,gy.jv,oH,bZ,decide_eq_true (by simp)];simp only [yX];rw [tIdx (s:=[45]++l.map dch) (i:=0) (x:=0) (c:=45) rfl rfl,fA];simp only [zV];rw [show decide (((45:UInt8).toNat:Int)=45)=true from rfl,zA,zA,gy.uq,zB,gy.v4,zG,gy.vk,zdg (s:=[45]++l.map dch) (a:=1) (x:=1) rfl (by simp)];exact main _
 | false =>
  have ec:(l.map dch)[0]? = some (dch (l.getD 0 0)):=by rw [List.getElem?_map,getD_some (by omega)];rfl
  have hx:=jP (k:=0) (by decide) hd;rw [if_neg (by decide),Zbg,zA,gy.jv,oH,Zao,bZ,decide_eq_true (by omega)];simp only [yX];rw [tIdx (i:=0) (x:=0) rfl ec,fA,zeo hx];simp only [zV];rw [decide_eq_false (by omega),zA,zA,gy.uq,zB,gy.v4,zE,zD];exact main _
theorem zci {s:List UInt8} {j:Nat} (hl:s.length<=1000000) (hj:j<=s.length) (hb:∀ i c,i<j->s[i]? = some c->c≠47) (he:j=s.length\/s[j]? = some 47):Pure Tryz.prog B 206 [.str s] (· = I (j:Int)):=by
 refine zS fun h nx K H0 hK=>zM zP yL 1000010 fun hf => ?_;rw [kz.go,kz.t20,zA,kz.gq,zA,zA,kz.jv,zI];refine kz.zlp (fun m x2 h' nx'=>∃ i:Nat,x2=I (i:Int)/\m+i=j/\h'=h/\nx'=nx) (m:=j) (by omega) ⟨0,rfl,rfl,rfl,rfl⟩ ?_;rintro m z1 z2 z3 z4 h3 nx3 R ⟨i,rfl,hm,rfl,rfl⟩ hR;rw [kz.t13,zA,zA,kz.uq,oH,qo];by_cases c:i<s.length
 ·have ec:=List.getElem?_eq_getElem c;rw [decide_eq_true (by omega),zB,kz.v3,zG,zD,zA,zI,zA,kz.fZ,tIdx (i:=i) rfl ec,fA,zB,kz.v4];by_cases d:i<j
  ·have hn:=hb i _ d ec
   have hn2:¬ ((s[i].toNat:Int)=47):=fun q=>hn (by
    have:s[i].toNat=(47:UInt8).toNat:=by
     have e:(47:UInt8).toNat=47:=rfl;omega
    exact UInt8.toNat_inj.1 this)
   rw [decide_eq_false hn2,zE,zD,kz.xu,qc (by omega)];exact hR (m-1) _ _ _ _ _ _ (by omega) ⟨i+1,rfl,by omega,rfl,rfl⟩
  ·obtain rfl:i=j:=by omega
   have e47:s[i]=47:=by
    rcases he with e | e
    ·omega
    ·rw [ec] at e;exact Option.some.inj e
   rw [e47,show decide (((47:UInt8).toNat:Int)=47)=true from rfl,zG,zA,kz.pq];simp only [zF,jJ,zL];rw [kz.ret];exact hK _ _ _ _ _ H0 (zK rfl) rfl
 ·obtain rfl:i=j:=by omega
  rw [decide_eq_false (by omega),zB,kz.v3,zE,zZ,yG,zA,kz.rF,oH];simp only [zF,zL];rw [kz.ret];exact hK _ _ _ _ _ H0 (zK rfl) (by congr 1;omega)
def bJ (q:Rat):List UInt8:=cO q.num++(if q.den=1 then [] else 47::cO (q.den:Int))
theorem zv6 {x:Nat} (h:x<10):dch x≠47:=by
 have:∀ x<10,dch x≠47:=by decide +kernel
 exact this x h
theorem vR {z:Int} {c:UInt8} (h:c∈cO z):c≠47:=by
 unfold cO bG at h;rcases List.mem_append.1 h with q | q
 ·split at q
  ·rw [List.mem_singleton.1 q];decide
  ·cases q
 ·obtain ⟨x,hx,rfl⟩:=List.mem_map.1 q;exact zv6 (wY _ _ x (by simpa using hx))
theorem wI {z:Int} {k:Nat} (h:Z9 k z):(cO z).length<=9*k+2:=by
 have:=pF h;unfold cO;rw [Zaf];split <;> simp <;> omega
theorem zgh (n:Nat):1<=(rH n 1).length:=by unfold rH;rw [Zaf,List.length_replicate];omega
theorem zh7 {z:Int} {k:Nat} (hk:k<=90000) (hz:Z9 k z):Pure Tryz.prog B 205 [.str (cO z)] (· = rW z):=by
 have hl:=pF hz;unfold bG at hl;rw [Zao,Zcf] at hl;have hp:=zox (B:=B) (l:=(rH z.natAbs 1).reverse) (neg:=decide (z<0)) (fun x hx=>wY _ _ x (by simpa using hx)) (by rw [Zcf];exact zgh _) (by rw [Zcf];omega);rw [List.reverse_reverse,d6] at hp;have e1:(if decide (z<0)=true then [45] else [])++(rH z.natAbs 1).reverse.map dch=cO z:=by
  unfold cO bG;by_cases d:z<0
  ·rw [if_pos d,if_pos (decide_eq_true d)]
  ·rw [if_neg d,if_neg (by rw [decide_eq_false d];decide)]
 have e2:(if decide (z<0)=true then -((z.natAbs:Nat):Int) else ((z.natAbs:Nat):Int))=z:=by
  by_cases d:z<0
  ·rw [if_pos (decide_eq_true d)];omega
  ·rw [if_neg (by rw [decide_eq_false d];decide)];omega
 rw [e1,e2] at hp;exact hp
theorem d5 {q:Rat} {k:Nat} (hk:k<=40000) (hn:Z9 k q.num) (hd:Z9 k (q.den:Int)):Pure Tryz.prog B 129 [.str (bJ q)] (· = .tup [rW q.num,rW (q.den:Int)]):=by
 refine zS fun h nx K H0 hK=>zM zP yL 100 fun hf => ?_;have l1:=wI hn;have l2:=wI hd;rw [wz.go,wz.t13,zA,wz.gq];refine H0.alloc fun p1 h1 nx1 H1 => ?_;refine H1.alloc fun p2 h2 nx2 H2 => ?_;rw [zA,wz.jv,zA,wz.uq];by_cases c:q.den=1
 ·have e:bJ q=cO q.num:=by unfold bJ;rw [if_pos c,Zbd]
  rw [e];refine zci (j:=(cO q.num).length) (by omega) (by omega) (fun i c _ hc=>vR (Zaa hc)) (.inl rfl) _ _ _ _ ?_;rintro _ rfl _;rw [zA,zA,wz.vk,oH,fA,decide_eq_true rfl,zB,wz.v5,zG,zA,wz.cu];refine zh7 (by omega) hn _ _ _ _ ?_;rintro _ rfl _;refine dT (by omega) _ _ _ _ ?_;rintro _ rfl _;refine H2.qf (l2:=[.bool (decide (q.num<0)),qj (dg 1000000000 q.num.natAbs)]) (k:=1) rfl rfl rfl fun h3 H3 => ?_;refine H3.qf (l2:=[.bool (decide ((1:Int)<0)),qj (dg 1000000000 (1:Int).natAbs)]) (k:=0) rfl rfl rfl fun h4 H4 => ?_;simp only [zF,zL];rw [wz.ret,H4.zi (k:=1) (n:=2) rfl rfl,H4.zi (k:=0) (n:=2) rfl rfl];exact hK _ _ _ _ _ H4 (gD dAgg dAgg) (by rw [c];rfl)
 ·have e:bJ q=cO q.num++47::cO (q.den:Int):=by unfold bJ;rw [if_neg c]
  have el:(bJ q).length=(cO q.num).length+((cO (q.den:Int)).length+1):=by rw [e,Zaf,Zbh]
  have et:(bJ q).take (cO q.num).length=cO q.num:=by rw [e,List.take_left'];rfl
  have ed:(bJ q).drop ((cO q.num).length+1)=cO (q.den:Int):=by rw [e,<- List.drop_drop,List.drop_left'];rfl;rfl
  refine zci (j:=(cO q.num).length) (by omega) (by omega) (fun i c hi hc => ?_) (.inr ?_) _ _ _ _ ?_
  ·rw [e,List.getElem?_append_left hi] at hc;exact vR (Zaa hc)
  ·rw [e,List.getElem?_append_right (Zag _),Nat.sub_self];rfl
  rintro _ rfl _;rw [zA,zA,wz.vk,oH,fA,decide_eq_false (by omega),zB,wz.v5,zE,zD,zA,wz.dw,tTo (b:=(cO q.num).length) rfl (by omega),et,qc (by omega),zdg (a:=(cO q.num).length+1) (by omega) (by omega),ed];refine zh7 (by omega) hn _ _ _ _ ?_;rintro _ rfl _;rw [zdg (a:=(cO q.num).length+1) (by omega) (by omega),ed,zN,qc (by omega)];simp only [zN];refine zh7 (by omega) hd _ _ _ _ ?_;rintro _ rfl _;refine H2.qf (l2:=[.bool (decide (q.num<0)),qj (dg 1000000000 q.num.natAbs)]) (k:=1) rfl rfl rfl fun h3 H3 => ?_;refine H3.qf (l2:=[.bool (decide ((q.den:Int)<0)),qj (dg 1000000000 (q.den:Int).natAbs)]) (k:=0) rfl rfl rfl fun h4 H4 => ?_;simp only [zF,zL];rw [wz.ret,H4.zi (k:=1) (n:=2) rfl rfl,H4.zi (k:=0) (n:=2) rfl rfl];exact hK _ _ _ _ _ H4 (gD dAgg dAgg) rfl
def zt2 (v:AV) (q:Rat):Prop:=∃ s w s' w',v=.agg [s,w,s',w']/\aH s w q.num/\aH s' w' (q.den:Int)
theorem aH.fix4 {s w s' w':AV} {a b:Int} (h:aH s w a) (h':aH s' w' b):∀ v∈[s,w,s',w'],ni v=true:=by
 intro v hv;rcases List.mem_cons.1 hv with rfl | hv
 ·exact h.fix _ (by simp)
 rcases List.mem_cons.1 hv with rfl | hv
 ·exact h.fix _ (by simp)
 exact h'.fix _ hv
theorem aH.build {s w s' w':AV} {a b:Int} (h:aH s w a) (h':aH s' w' b) {K:AV->OP}:yV [(I 0),.zf,(I 0),.zf] [(0,2,.agg [s,w]),(2,2,.agg [s',w'])] K=K (.agg [s,w,s',w']):=nr rfl
theorem Zs.mono {k m:Nat} {z:Int} (h:Zs k z) (hkm:k<=m):Zs m z:=Zcj h (Zck (by decide) hkm)
theorem Zs.mul {k m:Nat} {a b:Int} (ha:Zs k a) (hb:Zs m b):Zs (k+m) (a*b):=by
 unfold Zs at *
 rw [Int.natAbs_mul,Nat.pow_add];exact Zcm ha hb
theorem Zs.add {k:Nat} {a b:Int} (ha:Zs k a) (hb:Zs k b):Zs (k+1) (a+b):=by
 unfold Zs at *
 have h1:=Int.natAbs_add_le a b;have h2:18446744073709551616 ^ (k+1)=18446744073709551616 ^ k*18446744073709551616:=Zbr ..;omega
theorem zcj {n d:Int} (hd:0<d):(Rat.divInt n d).num=n / (Int.gcd n d:Int)/\((Rat.divInt n d).den:Int)=d / (Int.gcd n d:Int):=by
 refine ⟨?_,?_⟩
 ·rw [Rat.num_divInt,Int.sign_eq_one_of_pos hd,Int.one_mul,Int.gcd_comm]
 ·rw [Rat.den_divInt,if_neg (by omega),Int.gcd_comm,Int.natCast_ediv]
  congr 1
  omega
theorem zjf {z:Int}:((z:Rat)).num=z/\(((z:Rat)).den:Int)=1:=⟨Rat.num_intCast z,by rw [Rat.den_intCast];rfl⟩
theorem zoy {v:AV} {z:Int} (hv:sJ v z):Pure Tryz.prog B 186 [v] (fun v=>zt2 v (z:Rat)):=by
 obtain ⟨s,w,rfl,hv⟩:=hv;refine zS fun h nx K H0 hK=>zM zP yL 100 fun hf => ?_;rw [fQ.go,fQ.t3,zA,fQ.gq];refine H0.box (l:=[s,w]) rfl fun pa h1 nx1 H1 => ?_;refine H1.alloc fun p h2 nx2 H2 => ?_;rw [zA,fQ.jv,H2.zi (k:=1) (n:=2) rfl rfl];refine of85 (by omega) _ _ _ _ ?_;rintro _ ⟨s',w',rfl,h'⟩ _;rw [H2.zi (k:=1) (n:=2) rfl rfl,zN,hv.build h'];refine H2.qf (l2:=[s,w,s',w']) (k:=0) rfl rfl rfl fun h4 H4 => ?_;simp only [zF,zL];rw [fQ.ret,H4.zi (k:=0) (n:=4) rfl rfl];exact hK _ _ _ _ _ H4 (uAgg (hv.fix4 h')) ⟨_,_,_,_,rfl,by rw [zjf.1];exact hv,by rw [zjf.2];exact h'⟩
theorem f89 {z:Int} (h : -9223372036854775808<=z/\z<=9223372036854775807):Pure Tryz.prog B 96 [I z] (fun v=>zt2 v (z:Rat)):=by
 refine zS fun hh nx K H0 hK=>zM zP yL 100 fun hf => ?_;rw [F96.go,F96.t3,zA,F96.gq];refine H0.alloc fun p h2 nx2 H2 => ?_;rw [zA,F96.jv];refine of85 h _ _ _ _ ?_;intro v hv _;refine zoy hv _ _ _ _ ?_;rintro _ ⟨s,w,s',w',rfl,i1,i2⟩ _;refine H2.qf (l2:=[s,w,s',w']) (k:=0) rfl rfl rfl fun h4 H4 => ?_;simp only [zF,zL];rw [F96.ret,H4.zi (k:=0) (n:=4) rfl rfl];exact hK _ _ _ _ _ H4 (uAgg (i1.fix4 i2)) ⟨_,_,_,_,rfl,i1,i2⟩
theorem zrh:dg 1000000000 1=[1]:=by rw [kA (by decide) (by decide),show 1 / 1000000000=0 from rfl,jN]
theorem zri {a g:Int} (hg:0<g) (hd:g∣a):(if decide (a<0)=true then -((a.natAbs / g.natAbs:Nat):Int) else ((a.natAbs / g.natAbs:Nat):Int))=a / g:=by
 obtain ⟨t,rfl⟩:=hd;rw [Int.natAbs_mul,Nat.mul_div_cancel_left _ (by omega),Int.mul_ediv_cancel_left _ (by omega)];by_cases d:t<0
 ·rw [if_pos (decide_eq_true (Int.mul_neg_of_pos_of_neg hg d))];omega
 ·have:0<=g*t:=Int.mul_nonneg (by omega) (by omega);rw [if_neg (by rw [decide_eq_false (by omega)];decide)];omega
theorem vB {a b:Int} {k:Nat} (hk:k<=40000) (ha:Z9 k a) (hb:Z9 k b) (hb0:b≠0) (hbN:b.natAbs<1000000000):Pure Tryz.prog B 130 [rW a,rW b] (· = .str (bJ (Rat.divInt a b))):=by
 refine zS fun h nx K H0 hK=>zM zP yL 100 fun hf => ?_;rw [jm.go,jm.t22,zA,jm.gq];refine H0.box (l:=[.bool (decide (a<0)),qj (dg 1000000000 a.natAbs)]) rfl fun pa h1 nx1 H1 => ?_;refine H1.box (l:=[.bool (decide (b<0)),qj (dg 1000000000 b.natAbs)]) rfl fun pb h2 nx2 H2 => ?_
 have tail:∀ {h3:T Blk} {nx3:Pa} {a b:Int} {x9:AV},Z9 k a->Z9 k b->0<b->b.natAbs<1000000000->(∀ v h' nx' L v',Hp h h' nx' L->af h h' v v'->v'=.str (bJ (Rat.divInt a b))->K v h' nx'=.ok True)->Hp h h3 nx3 [.arr pb [.bool (decide (b<0)),qj (dg 1000000000 b.natAbs)],.arr pa [.bool (decide (a<0)),qj (dg 1000000000 a.natAbs)]]->∀ {x0 x1:AV},
   IR.run jm.t20 (CS Tryz.prog B) 100 (fnO jm.res K) (yw jm.res K) (jm.fr x0 x1 (.ptr pa 0) (.ptr pb 0) (.str []) .u .u .u .u x9 .u) h3 nx3=.ok True:=by
  intro h3 nx3 a b x9 ha hb hb0 hbN hK H x0 x1;have la:=ha.len;have lb:=hb.len;have hg:0<Nat.gcd a.natAbs b.natAbs:=Nat.gcd_pos_of_pos_right _ (by omega);have hgl:Nat.gcd a.natAbs b.natAbs<=b.natAbs:=Nat.le_of_dvd (by omega) (Nat.gcd_dvd_right ..);obtain ⟨d1,d2⟩:=zcj (n:=a) (d:=b) hb0;have eg:(Int.gcd a b:Int)=((Nat.gcd a.natAbs b.natAbs:Nat):Int):=rfl;have hsg:=zri (a:=a) (g:=(Int.gcd a b:Int)) (by rw [eg];omega) (Int.gcd_dvd_left ..);rw [<- d1,eg,Int.natAbs_natCast] at hsg;have hden:(Rat.divInt a b).den=b.natAbs / Nat.gcd a.natAbs b.natAbs:=by
   have e3:b / ((Nat.gcd a.natAbs b.natAbs:Nat):Int)=((b.natAbs / Nat.gcd a.natAbs b.natAbs:Nat):Int):=by
    rw [Int.natCast_ediv]
    congr 1
    omega
   rw [eg,e3] at d2;exact Int.natCast_inj.1 d2
  have hqn:Z9 k (Rat.divInt a b).num:=by
   unfold Z9 at *
   have e4:(Rat.divInt a b).num.natAbs=a.natAbs / Nat.gcd a.natAbs b.natAbs:=by
    rw [<- hsg];split
    ·rw [Int.natAbs_neg,Int.natAbs_natCast]
    ·rw [Int.natAbs_natCast]
   rw [e4];exact Nat.lt_of_le_of_lt (Nat.div_le_self _ _) ha
  have hqd:Z9 k ((Rat.divInt a b).den:Int):=by
   unfold Z9 at *
   rw [hden,Int.natAbs_natCast];exact Nat.lt_of_le_of_lt (Nat.div_le_self _ _) hb
  have l1:=wI hqn;have l2:=wI hqd;have oq:=jU (b:=1000000000) (by decide) (a.natAbs / Nat.gcd a.natAbs b.natAbs);have lq:=uQ (b:=1000000000) (by decide) (Nat.div_le_self a.natAbs (Nat.gcd a.natAbs b.natAbs));have Sg:S9 (Nat.gcd a.natAbs b.natAbs):=by
   have:=uQ (b:=1000000000) (by decide) hgl;unfold S9;omega
  rw [jm.t20,zA,jm.fZ,sFx,H.load (k:=1) (i:=0+1) rfl rfl,sFx,H.load (k:=0) (i:=0+1) rfl rfl];refine zkt hbN (by unfold S9;omega) (by unfold S9;omega) _ _ _ _ ?_;rintro _ rfl _;rw [zA,jm.pq,sFx,H.load (k:=1) (i:=0+1) rfl rfl];refine mA hg (Nat.lt_of_le_of_lt hgl hbN) (by unfold S9;omega) Sg _ _ _ _ ?_;rintro _ rfl _;rw [jC,jB,zA,jm.vz,sFx,H.load (k:=0) (i:=0+1) rfl rfl];refine mA hg (Nat.lt_of_le_of_lt hgl hbN) (by unfold S9;omega) Sg _ _ _ _ ?_;rintro _ rfl _;rw [jC,jB,zA,jm.dw,sFx,H.load (k:=1) (i:=0+0) rfl rfl];refine gV oq.2.1 (by omega) _ _ _ _ ?_;rintro _ rfl _;rw [oq.1,hsg];refine zen (by omega) hqn _ _ _ _ ?_;rintro _ rfl _;rw [<- hden,zA,zA,jm.fC]
  generalize Rat.divInt a b=q at *
  have od:=jU (b:=1000000000) (by decide) q.den;by_cases c:q.den=1
  ·rw [c,zrh,jm.r6_0,jm.zlq,dLen,fA,decide_eq_true (by rfl)];simp only [yX];rw [dIx (l:=[1]) (i:=0) (j:=0) rfl (by simp),dLd (x:=1) rfl,fA,decide_eq_true (by rfl),jm.r6_1,jm.zg2];simp only [zV];rw [zB,jm.v10,zG,zA,jm.dh];simp only [zF,zL];rw [jm.ret];exact hK _ _ _ _ _ H (zK rfl) (by rw [bJ,if_pos c,Zbd])
  ·have fin:∀ x10:AV,IR.run jm.t15 (CS Tryz.prog B) 100 (fnO jm.res K) (yw jm.res K) (jm.fr x0 x1 (.ptr pa 0) (.ptr pb 0) (.str []) (qj (dg 1000000000 (Nat.gcd a.natAbs b.natAbs))) (qj (dg 1000000000 (a.natAbs / Nat.gcd a.natAbs b.natAbs))) (qj (dg 1000000000 q.den)) (.str (cO q.num)) x9 x10) h3 nx3=.ok True:=by
    intro x10;rw [jm.t15,zA,jm.fG,tCat (by simp;omega)];refine gV od.2.1 (by have:=hqd.len;rw [Int.natAbs_natCast] at this;omega) _ _ _ _ ?_;rintro _ rfl _;rw [if_neg (by decide),od.1];refine zen (by omega) hqd _ _ _ _ ?_;rintro _ rfl _;rw [tCat (by simp;omega)];simp only [zF,zL];rw [jm.ret];exact hK _ _ _ _ _ H (zK rfl) (by rw [bJ,if_neg c,Zar];rfl)
   rw [jm.r6_0,jm.zlq,dLen,fA];by_cases e:(dg 1000000000 q.den).length=1
   ·obtain ⟨e1,e2⟩:=zcg (b:=1000000000) (by decide) e;rw [decide_eq_true (by omega)];simp only [yX];rw [e1,dIx (l:=[q.den]) (i:=0) (j:=0) rfl (by simp),dLd (x:=q.den) rfl,fA,decide_eq_false (by omega),jm.r6_1,jm.zg2];simp only [zV];rw [zB,jm.v10,zE,zD];rw [<- e1];exact fin _
   ·rw [decide_eq_false (by omega)];simp only [jL,j7];rw [jm.r6_1,jm.zg2];simp only [zY];rw [zB,jm.v10,zE,zD];exact fin _
 rw [zA,zA,jm.jv,sFx,H2.load (k:=0) (i:=0+0) rfl rfl,zB,jm.v9];by_cases c:b<0
 ·rw [decide_eq_true c,zG,jm.uq,H2.zi (k:=1) (n:=2) rfl rfl,H2.zi (k:=0) (n:=2) rfl rfl];have hma:Z9 k (-a):=by unfold Z9 at *;omega
  have hmb:Z9 k (-b):=by unfold Z9 at *;omega
  rw [<- kQ a,<- kQ b];refine zgc (by omega) ha _ _ _ _ ?_;rintro _ rfl _;rw [H2.zi (k:=0) (n:=2) rfl rfl,<- kQ b,zN];refine zgc (by omega) hb _ _ _ _ ?_;rintro _ rfl _;refine H2.qf (l2:=[.bool (decide (-a<0)),qj (dg 1000000000 (-a).natAbs)]) (k:=1) rfl rfl rfl fun h3 H3 => ?_;refine H3.qf (l2:=[.bool (decide (-b<0)),qj (dg 1000000000 (-b).natAbs)]) (k:=0) rfl rfl rfl fun h4 H4 => ?_;exact tail hma hmb (by omega) (by omega) (by rw [Rat.neg_divInt_neg];exact hK) H4
 ·rw [decide_eq_false c,zE,zD];exact tail ha hb (by omega) hbN hK (by rw [decide_eq_false c] at H2 ⊢;exact H2)
def ai (q:Rat):List UInt8:=bG q.num.natAbs 1++(if q.den=1 then [] else 47::bG q.den 1)
theorem zjg (q:Rat):bJ q=(if q.num<0 then [45] else [])++ai q:=by
 unfold bJ ai cO;rw [Zar,if_neg (show ¬ ((q.den:Int)<0) by omega),Zbg,Int.natAbs_natCast]
theorem zoz (n:Nat):1<=(bG n 1).length:=by unfold bG;rw [Zao,Zcf];exact zgh n
theorem mC {n:Nat} {c:UInt8} (h:c∈bG n 1):c≠47/\c≠45:=by
 unfold bG at h;obtain ⟨x,hx,rfl⟩:=List.mem_map.1 h;have hx10:=wY n 1 x (by simpa using hx);have:∀ x<10,dch x≠47/\dch x≠45:=by decide +kernel
 exact this x hx10
theorem zo0 {n:Nat} (hl:(bG n 1).length<=18):Pure Tryz.prog B 209 [.str (bG n 1)] (· = I (n:Int)):=by
 have hl2:=hl;unfold bG at hl2;rw [Zao] at hl2;have:=zch (B:=B) (l:=(rH n 1).reverse) (fun x hx=>wY _ _ x (by simpa using hx)) hl2;rw [List.reverse_reverse,d6] at this;exact this
theorem zjh {n k:Nat} (hl:(bG n 1).length<=k):n<10 ^ k:=by
 have e:(rH n 1).length<=k:=by unfold bG at hl;simpa using hl
 have:=pJ (b:=10) (by decide) (wY n 1);rw [d6] at this;exact Zcj this (Zck (by decide) e)
theorem d4 {q:Rat} (hs:(bJ q).length<=1000000):Pure Tryz.prog B 127 [.str (bJ q)] (fun v=>∃ (a b:Int) (ok:Bool),v=.tup [I a,I b,.bool ok]/\(ok=true->a=q.num/\b=(q.den:Int)/\q.num.natAbs<10 ^ 9/\q.den<10 ^ 9)):=by
 refine zS fun h nx K H0 hK=>zM zP yL 100 fun hf => ?_;have no:K (.tup [I 0,I 0,.bool false]) h nx=.ok True:=hK _ _ _ _ _ H0 (zbz (.int _ _) (.int _ _) (.bool _)) ⟨0,0,false,rfl,fun e=>by cases e⟩;rw [yh.go,yh.t38,zA,yh.gq,zA,yh.jv,zA,zA,yh.uq,oH,bZ,zB,yh.v9];by_cases c0:20<(bJ q).length
 ·rw [decide_eq_true (by omega),zG,zA,yh.vk];simp only [zF,zL];rw [yh.ret];exact no
 rw [decide_eq_false (by omega),zE,zD];have hd1:=zoz q.num.natAbs;have hbl:(ai q).length=(bG q.num.natAbs 1).length+(if q.den=1 then [] else 47::bG q.den 1).length:=by rw [ai,Zaf]
 have hb20:(ai q).length<=20:=by rw [zjg,Zaf] at c0;omega
 have main:∀ x10:AV,yh.t33.run (CS Tryz.prog B) 100 (fnO yh.res K) (yw yh.res K) (yh.fr (.str (bJ q)) (I 0) (I 0) (.bool false) (.str (ai q)) (.bool (decide (q.num<0))) .u .u .u (.bool false) x10 .u .u .u) h nx=.ok True:=by
  intro x10;have zyy:∀ i c,i<(bG q.num.natAbs 1).length->(ai q)[i]? = some c->c≠47:=fun i c hi hc=>by
   rw [ai,List.getElem?_append_left hi] at hc;exact (mC (Zaa hc)).1
  have hat:(bG q.num.natAbs 1).length=(ai q).length\/(ai q)[(bG q.num.natAbs 1).length]? = some 47:=by
   by_cases c:q.den=1
   ·rw [if_pos c] at hbl;exact .inl (by simpa using hbl.symm)
   ·right
    rw [ai,if_neg c,List.getElem?_append_right (Zag _),Nat.sub_self];rfl
  have ht:(ai q).take (bG q.num.natAbs 1).length=bG q.num.natAbs 1:=by rw [ai,List.take_left'];rfl
  rw [yh.t33,zA,yh.bT];refine zci (j:=(bG q.num.natAbs 1).length) (by omega) (by omega) zyy hat _ _ _ _ ?_;rintro _ rfl _;rw [zA,zA,yh.fD,yh.ou,yh.aW,bZ];by_cases c1:9<(bG q.num.natAbs 1).length
  ·rw [decide_eq_true (by omega)];simp only [jM,j7];rw [yh.r8_1,yh.tX];simp only [zV];rw [zB,yh.v11,zG,zA,yh.fG];simp only [zF,zL];rw [yh.ret];exact no
  rw [decide_eq_false (by omega)];simp only [jE];rw [oH,fF (by omega),bZ,yh.r8_1,yh.tX];simp only [zY];rw [zB,yh.v11];by_cases c2:10<(ai q).length-(bG q.num.natAbs 1).length
  ·rw [decide_eq_true (by omega),zG,zA,yh.fG];simp only [zF,zL];rw [yh.ret];exact no
  have hn9:=zjh (n:=q.num.natAbs) (k:=9) (by omega);rw [decide_eq_false (by omega),zE,zD,zA,yh.aT,tTo (b:=(bG q.num.natAbs 1).length) rfl (by omega),ht];refine zo0 (by omega) _ _ _ _ ?_;rintro _ rfl _;have fin:∀ x12:AV,q.den<10 ^ 9->yh.t29.run (CS Tryz.prog B) 100 (fnO yh.res K) (yw yh.res K) (yh.fr (.str (bJ q)) (I 0) (I 0) (.bool false) (.str (ai q)) (.bool (decide (q.num<0))) (I ((bG q.num.natAbs 1).length:Int)) (I (q.num.natAbs:Int)) (I (q.den:Int)) (.bool false) x10 (.bool false) x12 .u) h nx=.ok True:=by
   intro x12 hdn;rw [yh.t29,zA,zA,yh.zav,zB,yh.v13];by_cases d:q.num<0
   ·rw [decide_eq_true d,zG,yh.aj,fF (by omega),zA,yh.zcv];simp only [zF,zL];rw [yh.ret];exact hK _ _ _ _ _ H0 (zbz (.int _ _) (.int _ _) (.bool _)) ⟨_,_,true,rfl,fun _=>⟨by omega,rfl,hn9,hdn⟩⟩
   ·rw [decide_eq_false d,zE,zD,zA,yh.zcv];simp only [zF,zL];rw [yh.ret];exact hK _ _ _ _ _ H0 (zbz (.int _ _) (.int _ _) (.bool _)) ⟨_,_,true,rfl,fun _=>⟨by omega,rfl,hn9,hdn⟩⟩
  rw [zA,zA,yh.sK,oH,qo,zB,yh.v12];by_cases c:q.den=1
  ·rw [if_pos c,List.length_nil,Zcb] at hbl;rw [decide_eq_false (by omega),zE,zD];have:=fin (.bool false) (by omega);rw [c] at this;exact this
  ·rw [if_neg c,Zbh] at hbl;have ed:(ai q).drop ((bG q.num.natAbs 1).length+1)=bG q.den 1:=by rw [ai,if_neg c,<- List.drop_drop,List.drop_left'];rfl;rfl
   rw [decide_eq_true (by omega),zG,yh.rY,qc (by omega),zdg (a:=(bG q.num.natAbs 1).length+1) (by omega) (by omega),ed];refine zo0 (by omega) _ _ _ _ ?_;rintro _ rfl _;exact fin _ (zjh (by omega))
 have hcut:bJ q=(if q.num<0 then [45] else [])++ai q:=zjg q;by_cases d:q.num<0
 ·rw [if_pos d] at hcut;have e0:(bJ q)[0]? = some 45:=by rw [hcut];rfl
  have el:(bJ q).length=(ai q).length+1:=by rw [hcut];rfl
  have ed:(bJ q).drop 1=ai q:=by rw [hcut];rfl
  rw [zA,yh.vz,oH,bZ,decide_eq_true (by omega)];simp only [yX];rw [tIdx (i:=0) (x:=0) rfl e0,fA];simp only [zV];rw [show decide (((45:UInt8).toNat:Int)=45)=true from rfl,zA,zA,yh.dw,zB,yh.v10,zG,yh.fC,zdg (a:=1) (x:=1) rfl (by omega),ed];have:=main (.bool true);rw [decide_eq_true d] at this;exact this
 ·rw [if_neg d,Zbg] at hcut;obtain ⟨c0',hc0⟩:∃ c,(bG q.num.natAbs 1)[0]? = some c:=⟨_,List.getElem?_eq_getElem (by omega)⟩;have e0:(bJ q)[0]? = some c0':=by rw [hcut,ai,List.getElem?_append_left (by omega),hc0]
  have hne:=(mC (Zaa hc0)).2
  have hne2:¬ ((c0'.toNat:Int)=45):=fun h=>hne (by
   have e:(45:UInt8).toNat=45:=rfl;have:c0'.toNat=(45:UInt8).toNat:=by omega
   exact UInt8.toNat_inj.1 this)
  rw [zA,yh.vz,oH,bZ,decide_eq_true (by rw [hcut];omega)];simp only [yX];rw [tIdx (i:=0) (x:=0) rfl e0,fA];simp only [zV];rw [decide_eq_false hne2,zA,zA,yh.dw,zB,yh.v10,zE,zD];have:=main (.bool false);rw [decide_eq_false d] at this;rw [<- hcut] at this;exact this
theorem zt3 {a b:Int} {K:AV->OP}:sMin true (I a) [I b] K=K (I (max a b)):=by
 have e:sMin true (I a) [I b] K=K (.int .i64 (bif ilt a b then b else a)):=rfl;rw [e,qX]
 congr 2
 by_cases c:a<b
 ·simp only [c,decide_true,cond_true];omega
 ·simp only [c,decide_false,cond_false];omega
theorem zo1 {z:Int} (h : -9223372036854775808<=z/\z<=9223372036854775807):Z9 3 z:=by unfold Z9;omega
theorem zji {n:Nat} (h:n<=9223372036854775807):(bG n 1).length<=20:=by
 unfold bG;rw [Zao,Zcf];have:=zgd (n:=n) (w:=1) (by omega) (by omega);omega
theorem zt4 {a b:Int} (ha : -9223372036854775808<=a/\a<=9223372036854775807) (hb : -9223372036854775808<=b/\b<=9223372036854775807) (hb0:b≠0) (hbN:b.natAbs<1000000000):Pure Tryz.prog B 128 [I a,I b] (· = .str (bJ (Rat.divInt a b))):=by
 refine zS fun h nx K H0 hK=>zM zP yL 100 fun hf => ?_;rw [yj.go,yj.t32,zA,yj.gq];have big:∀ x5:AV,x5=.bool true->yj.t4.run (CS Tryz.prog B) 100 (fnO yj.res K) (yj.t30.run (CS Tryz.prog B) 100 (fnO yj.res K) (yw yj.res K)) (yj.fr (I a) (I b) (.str []) .u .u x5 .u .u .u) h nx=.ok True:=by
  rintro _ rfl;rw [yj.t4,zB,yj.v5,zG,zA,yj.uq];refine dT ha _ _ _ _ ?_;rintro _ rfl _;refine dT hb _ _ _ _ ?_;rintro _ rfl _;refine vB (k:=3) (by omega) (zo1 ha) (zo1 hb) hb0 hbN _ _ _ _ ?_;rintro _ rfl _;simp only [zF,zL];rw [yj.ret];exact hK _ _ _ _ _ H0 (zK rfl) rfl
 have tail:∀ {a b:Int} {x5 x6:AV},(-4000000000000000000<=a/\a<=4000000000000000000)->(0<b/\b<=4000000000000000000)->(∀ v h' nx' L v',Hp h h' nx' L->af h h' v v'->v'=.str (bJ (Rat.divInt a b))->K v h' nx'=.ok True) ->
   yj.t29.run (CS Tryz.prog B) 100 (fnO yj.res K) (yw yj.res K) (yj.fr (I a) (I b) (.str []) .u .u x5 x6 .u .u) h nx=.ok True:=by
  intro a b x5 x6 ha hb hK;have hg:0<Nat.gcd a.natAbs b.natAbs:=Nat.gcd_pos_of_pos_right _ (by omega);have hgl:Nat.gcd a.natAbs b.natAbs<=b.natAbs:=Nat.le_of_dvd (by omega) (Nat.gcd_dvd_right ..);obtain ⟨d1,d2⟩:=zcj (n:=a) (d:=b) hb.1;have eg:(Int.gcd a b:Int)=((Nat.gcd a.natAbs b.natAbs:Nat):Int):=rfl;have e1:a.tdiv ((Nat.gcd a.natAbs b.natAbs:Nat):Int)=(Rat.divInt a b).num:=by
   rw [d1,<- eg];exact Int.tdiv_eq_ediv_of_dvd (Int.gcd_dvd_left ..)
  have e2:b.tdiv ((Nat.gcd a.natAbs b.natAbs:Nat):Int)=((Rat.divInt a b).den:Int):=by
   rw [d2,<- eg];exact Int.tdiv_eq_ediv_of_dvd (Int.gcd_dvd_right ..)
  have hn:(Rat.divInt a b).num.natAbs<=a.natAbs:=by
   rw [<- e1,Int.natAbs_tdiv,Int.natAbs_natCast];exact Nat.div_le_self _ _
  have hd:(Rat.divInt a b).den<=b.natAbs:=by
   have:=congrArg Int.natAbs e2;rw [Int.natAbs_tdiv,Int.natAbs_natCast,Int.natAbs_natCast] at this;rw [<- this];exact Nat.div_le_self _ _
  rw [yj.t29,zA,yj.dh,fF (by omega),zt3,show max a (0-a)=(a.natAbs:Int) by omega];have hbb:I b=I (b.natAbs:Int):=by congr 1;omega
  have hgc:∀ KK:Kw Prop,(∀ h2 n3,h2=h->n3=nx->KK (I ((Nat.gcd a.natAbs b.natAbs:Nat):Int)) h2 n3=.ok True)->(CS Tryz.prog B).fn 210 (.of 210) [I (a.natAbs:Int),I b] h nx KK=.ok True:=fun KK q=>by
   rw [hbb];refine zv5 (by omega) (by omega) _ _ _ _ ?_;rintro _ rfl _;exact q _ _ rfl rfl
  refine hgc _ ?_;rintro h2 n3 rfl rfl;rw [zA,yj.xu,zce (by omega) (by omega),zce (by omega) (by omega),e1,e2,zA,yj.bT,zA,zA,yj.fD,qo,zB,yj.v7]
  generalize Rat.divInt a b=q at *
  have l1:=zji (n:=q.num.natAbs) (by omega);have l2:=zji (n:=q.den) (by omega);have fin:∀ (sg:List UInt8) (x7:AV),sg=(if q.num<0 then [45] else [])->yj.t25.run (CS Tryz.prog B) 100 (fnO yj.res K) (yw yj.res K) (yj.fr (I q.num) (I (q.den:Int)) (.str []) (I ((Nat.gcd a.natAbs b.natAbs:Nat):Int)) (.str sg) x5 x6 x7 .u) h2 n3=.ok True:=by
   intro sg x7 hsg;have ls:sg.length<=1:=by rw [hsg];split <;> simp
   rw [yj.t25,zA,yj.rF,fF (by omega),zt3,show max q.num (0-q.num)=(q.num.natAbs:Int) by omega];refine xB (w:=1) (by omega) (by omega) _ _ _ _ ?_;rintro _ rfl _;rw [tCat (by omega),zA,zA,yj.aT,bZ,zB,yj.v8];have hint:sg++bG q.num.natAbs 1=cO q.num:=by rw [hsg];rfl
   by_cases c:q.den=1
   ·rw [decide_eq_false (by omega),zE,zD,zA,yj.tu];simp only [zF,zL];rw [yj.ret];exact hK _ _ _ _ _ H0 (zK rfl) (by rw [bJ,if_pos c,Zbd,hint])
   ·have hdp:=q.den_pos;rw [decide_eq_true (by omega),zG,yj.sK,tCat (by simp;omega)];refine xB (w:=1) (by omega) (by omega) _ _ _ _ ?_;rintro _ rfl _;rw [tCat (by simp;omega),zA,yj.tu];simp only [zF,zL];rw [yj.ret];refine hK _ _ _ _ _ H0 (zK rfl) ?_;rw [bJ,if_neg c,<- hint,cO,if_neg (show ¬ ((q.den:Int)<0) by omega),Zbg,Int.natAbs_natCast];simp
  by_cases d:q.num<0
  ·rw [decide_eq_true d,zG,yj.fG];exact fin _ _ (by rw [if_pos d])
  ·rw [decide_eq_false d,zE,zD];exact fin _ _ (by rw [if_neg d])
 have small:(-4000000000000000000<=a/\a<=4000000000000000000)->(-4000000000000000000<=b/\b<=4000000000000000000)->∀ x5:AV,x5=.bool false->yj.t4.run (CS Tryz.prog B) 100 (fnO yj.res K) (yj.t30.run (CS Tryz.prog B) 100 (fnO yj.res K) (yw yj.res K)) (yj.fr (I a) (I b) (.str []) .u .u x5 .u .u .u) h nx=.ok True:=by
  rintro ha hb _ rfl;rw [yj.t4,zB,yj.v5,zE,zD,yj.t30,zA,zA,yj.pq,qo,zB,yj.v6];by_cases c:b<0
  ·rw [decide_eq_true c,zG,yj.vz,fF (by omega),fF (by omega),Int.zero_sub,Int.zero_sub];exact tail (by omega) (by omega) (by rw [Rat.neg_divInt_neg];exact hK)
  ·rw [decide_eq_false c,zE,zD];exact tail ha (by omega) hK
 rw [zA,zA,yj.jv,yj.aA,yj.aB,qo];by_cases c1:a < -4000000000000000000
 ·rw [decide_eq_true c1];simp only [jM,j7,zV];rw [yj.rU,yj.bY];simp only [jM,j7,zV];exact big _ rfl
 rw [decide_eq_false c1];simp only [jE];rw [bZ];simp only [zY];by_cases c2:4000000000000000000<a
 ·rw [decide_eq_true c2];simp only [jM,j7,zV];rw [yj.rU,yj.bY];simp only [jM,j7,zV];exact big _ rfl
 rw [decide_eq_false c2];simp only [jE];rw [yj.rU,yj.bY];simp only [jE];rw [qo];simp only [zY];by_cases c3:b < -4000000000000000000
 ·rw [decide_eq_true c3];simp only [jM,j7,zV];exact big _ rfl
 rw [decide_eq_false c3];simp only [jE];rw [bZ];simp only [zY];by_cases c4:4000000000000000000<b
 ·rw [decide_eq_true c4];exact big _ rfl
 rw [decide_eq_false c4];exact small (by omega) (by omega) _ rfl
theorem dZ (q:Rat):Rat.divInt q.num (q.den:Int)=q:=Rat.num_divInt_den q
theorem uI (q:Rat):(q.den:Int)≠0:=by have:=q.den_nz;omega
theorem zjj (a b:Rat):Rat.divInt (a.num*b.num) ((a.den:Int)*(b.den:Int))=a*b:=by
 rw [<- Rat.divInt_mul_divInt,dZ,dZ]
theorem zjk (a b:Rat):Rat.divInt (a.num*(b.den:Int)+b.num*(a.den:Int)) ((a.den:Int)*(b.den:Int))=a+b:=by
 rw [<- Rat.divInt_add_divInt _ _ (uI a) (uI b),dZ,dZ]
def Q9 (k:Nat) (q:Rat):Prop:=Z9 k q.num/\Z9 k (q.den:Int)
theorem Q9.txt {k:Nat} {q:Rat} (h:Q9 k q):(bJ q).length<=18*k+5:=by
 have l1:=wI h.1;have l2:=wI h.2;unfold bJ;rw [Zaf];split <;> simp <;> omega
theorem zv7 {p q:Rat} {k:Nat} (hk:k<=10000) (hN:((p.den:Int)*(q.den:Int)).natAbs<1000000000) (hp:Q9 k p) (hq:Q9 k q):Pure Tryz.prog B 40 [.str (bJ p),.str (bJ q)] (· = .str (bJ (p+q))):=by
 refine zS fun h nx K H0 hK=>zM zP yL 100 fun hf => ?_;have tp:=hp.txt;have tq:=hq.txt;rw [F40.go,F40.t17,zA,F40.gq,zA,F40.jv];refine d4 (by omega) _ _ _ _ ?_;rintro _ ⟨a,b,o1,rfl,h1⟩ _;rw [jC,jB,xR,zA,F40.uq];refine d4 (by omega) _ _ _ _ ?_;rintro _ ⟨c,d,o2,rfl,h2⟩ _;rw [jC,jB,xR,zA,zA,F40.vk];have slow:∀ {x13:AV},F40.t13.run (CS Tryz.prog B) 100 (fnO F40.res K) (yw F40.res K) (F40.fr (.str (bJ p)) (.str (bJ q)) (.str []) (I a) (I b) (.bool o1) (I c) (I d) (.bool o2) .u .u .u .u x13) h nx=.ok True:=by
  intro x13;rw [F40.t13,zA,F40.dw];refine d5 (by omega) hp.1 hp.2 _ _ _ _ ?_;rintro _ rfl _;rw [jC,jB];refine H0.alloc fun p1 h1 nx1 H1 => ?_;refine H1.alloc fun p2 h2 nx2 H2 => ?_;refine H2.qf (l2:=[.bool (decide (p.num<0)),qj (dg 1000000000 p.num.natAbs)]) (k:=1) rfl rfl rfl fun h3 H3 => ?_;refine H3.qf (l2:=[.bool (decide ((p.den:Int)<0)),qj (dg 1000000000 (p.den:Int).natAbs)]) (k:=0) rfl rfl rfl fun h4 H4 => ?_;rw [zA,F40.fC];refine d5 (by omega) hq.1 hq.2 _ _ _ _ ?_;rintro _ rfl _;rw [jC,jB];refine H4.alloc fun q1 h5 nx5 H5 => ?_;refine H5.alloc fun q2 h6 nx6 H6 => ?_;refine H6.qf (l2:=[.bool (decide (q.num<0)),qj (dg 1000000000 q.num.natAbs)]) (k:=1) rfl rfl rfl fun h7 H7 => ?_;refine H7.qf (l2:=[.bool (decide ((q.den:Int)<0)),qj (dg 1000000000 (q.den:Int).natAbs)]) (k:=0) rfl rfl rfl fun h8 H8 => ?_;have L3:∀ op:AV->OP,zO 2 (.ptr p1 0) h8 op=op (rW p.num):=fun op=>H8.zi (k:=3) rfl rfl;have L2:∀ op:AV->OP,zO 2 (.ptr p2 0) h8 op=op (rW (p.den:Int)):=fun op=>H8.zi (k:=2) rfl rfl;have L1:∀ op:AV->OP,zO 2 (.ptr q1 0) h8 op=op (rW q.num):=fun op=>H8.zi (k:=1) rfl rfl;have L0:∀ op:AV->OP,zO 2 (.ptr q2 0) h8 op=op (rW (q.den:Int)):=fun op=>H8.zi (k:=0) rfl rfl;have z1:=hp.1.mul hq.2;have z2:=hq.1.mul hp.2;have z3:=hp.2.mul hq.2;rw [zA,F40.dh,L3,L0,L1,L2,L2,L0];refine xO (by omega) (by omega) hp.1 hq.2 _ _ _ _ ?_;rintro _ rfl _;rw [L0,zN,L2,zN,L2,zN,L1,zN];refine xO (by omega) (by omega) hq.1 hp.2 _ _ _ _ ?_;rintro _ rfl _;rw [L0,zN,L2,zN];refine zrf (by omega) z1 z2 _ _ _ _ ?_;rintro _ rfl _;rw [L0,zN,L2,zN];refine xO (by omega) (by omega) hp.2 hq.2 _ _ _ _ ?_;rintro _ rfl _;refine vB (k:=k+k+1) (by omega) (z1.add z2) (z3.mono (by omega)) (Int.mul_ne_zero (uI p) (uI q)) hN _ _ _ _ ?_;rintro _ rfl _;rw [zjk];simp only [zF,zL];rw [F40.ret];exact hK _ _ _ _ _ H8 (zK rfl) rfl
 have stop:F40.t6.run (CS Tryz.prog B) 100 (fnO F40.res K) (F40.t13.run (CS Tryz.prog B) 100 (fnO F40.res K) (yw F40.res K)) (F40.fr (.str (bJ p)) (.str (bJ q)) (.str []) (I a) (I b) (.bool o1) (I c) (I d) (.bool o2) .u .u .u .u (.bool (o1&&o2))) h nx=.ok True:=by
  rw [F40.t6,zB,F40.v13];cases ho:(o1&&o2) with
  | false =>
   rw [zE,zD];exact slow
  | true =>
   rw [Zac] at ho;obtain ⟨rfl,rfl,b1,b2⟩:=h1 ho.1;obtain ⟨rfl,rfl,b3,b4⟩:=h2 ho.2;have m1:(p.num*(q.den:Int)).natAbs<10 ^ 9*10 ^ 9:=by rw [Int.natAbs_mul];exact Zcm b1 (by omega)
   have m2:(q.num*(p.den:Int)).natAbs<10 ^ 9*10 ^ 9:=by rw [Int.natAbs_mul];exact Zcm b3 (by omega)
   have m3:((p.den:Int)*(q.den:Int)).natAbs<10 ^ 9*10 ^ 9:=by rw [Int.natAbs_mul];exact Zcm (by omega) (by omega)
   rw [zG,zA,F40.cu,au (by omega),au (by omega),qc (by omega),au (by omega)];refine zt4 (by omega) (by omega) (Int.mul_ne_zero (uI p) (uI q)) hN _ _ _ _ ?_;rintro _ rfl _;rw [zjk];simp only [zF,zL];rw [F40.ret];exact hK _ _ _ _ _ H0 (zK rfl) rfl
 cases o1 with
 | true =>
  simp only [yX,zV];exact stop
 | false =>
  simp only [jL,zY];exact stop
theorem zv8 {p q:Rat} {k:Nat} (hk:k<=10000) (hN:((p.den:Int)*(q.den:Int)).natAbs<1000000000) (hp:Q9 k p) (hq:Q9 k q):Pure Tryz.prog B 41 [.str (bJ p),.str (bJ q)] (· = .str (bJ (p*q))):=by
 refine zS fun h nx K H0 hK=>zM zP yL 100 fun hf => ?_;have tp:=hp.txt;have tq:=hq.txt;rw [F41.go,F41.t17,zA,F41.gq,zA,F41.jv];refine d4 (by omega) _ _ _ _ ?_;rintro _ ⟨a,b,o1,rfl,h1⟩ _;rw [jC,jB,xR,zA,F41.uq];refine d4 (by omega) _ _ _ _ ?_;rintro _ ⟨c,d,o2,rfl,h2⟩ _;rw [jC,jB,xR,zA,zA,F41.vk];have slow:∀ {x13:AV},F41.t13.run (CS Tryz.prog B) 100 (fnO F41.res K) (yw F41.res K) (F41.fr (.str (bJ p)) (.str (bJ q)) (.str []) (I a) (I b) (.bool o1) (I c) (I d) (.bool o2) .u .u .u .u x13) h nx=.ok True:=by
  intro x13;rw [F41.t13,zA,F41.dw];refine d5 (by omega) hp.1 hp.2 _ _ _ _ ?_;rintro _ rfl _;rw [jC,jB];refine H0.alloc fun p1 h1 nx1 H1 => ?_;refine H1.alloc fun p2 h2 nx2 H2 => ?_;refine H2.qf (l2:=[.bool (decide (p.num<0)),qj (dg 1000000000 p.num.natAbs)]) (k:=1) rfl rfl rfl fun h3 H3 => ?_;refine H3.qf (l2:=[.bool (decide ((p.den:Int)<0)),qj (dg 1000000000 (p.den:Int).natAbs)]) (k:=0) rfl rfl rfl fun h4 H4 => ?_;rw [zA,F41.fC];refine d5 (by omega) hq.1 hq.2 _ _ _ _ ?_;rintro _ rfl _;rw [jC,jB];refine H4.alloc fun q1 h5 nx5 H5 => ?_;refine H5.alloc fun q2 h6 nx6 H6 => ?_;refine H6.qf (l2:=[.bool (decide (q.num<0)),qj (dg 1000000000 q.num.natAbs)]) (k:=1) rfl rfl rfl fun h7 H7 => ?_;refine H7.qf (l2:=[.bool (decide ((q.den:Int)<0)),qj (dg 1000000000 (q.den:Int).natAbs)]) (k:=0) rfl rfl rfl fun h8 H8 => ?_;have L3:∀ op:AV->OP,zO 2 (.ptr p1 0) h8 op=op (rW p.num):=fun op=>H8.zi (k:=3) rfl rfl;have L2:∀ op:AV->OP,zO 2 (.ptr p2 0) h8 op=op (rW (p.den:Int)):=fun op=>H8.zi (k:=2) rfl rfl;have L1:∀ op:AV->OP,zO 2 (.ptr q1 0) h8 op=op (rW q.num):=fun op=>H8.zi (k:=1) rfl rfl;have L0:∀ op:AV->OP,zO 2 (.ptr q2 0) h8 op=op (rW (q.den:Int)):=fun op=>H8.zi (k:=0) rfl rfl;have z1:=hp.1.mul hq.1;have z3:=hp.2.mul hq.2;rw [zA,F41.dh,L3,L1,L2,L0];refine xO (by omega) (by omega) hp.1 hq.1 _ _ _ _ ?_;rintro _ rfl _;rw [L0,zN,L2,zN];refine xO (by omega) (by omega) hp.2 hq.2 _ _ _ _ ?_;rintro _ rfl _;refine vB (k:=k+k) (by omega) z1 z3 (Int.mul_ne_zero (uI p) (uI q)) hN _ _ _ _ ?_;rintro _ rfl _;rw [zjj];simp only [zF,zL];rw [F41.ret];exact hK _ _ _ _ _ H8 (zK rfl) rfl
 have stop:F41.t6.run (CS Tryz.prog B) 100 (fnO F41.res K) (F41.t13.run (CS Tryz.prog B) 100 (fnO F41.res K) (yw F41.res K)) (F41.fr (.str (bJ p)) (.str (bJ q)) (.str []) (I a) (I b) (.bool o1) (I c) (I d) (.bool o2) .u .u .u .u (.bool (o1&&o2))) h nx=.ok True:=by
  rw [F41.t6,zB,F41.v13];cases ho:(o1&&o2) with
  | false =>
   rw [zE,zD];exact slow
  | true =>
   rw [Zac] at ho;obtain ⟨rfl,rfl,b1,b2⟩:=h1 ho.1;obtain ⟨rfl,rfl,b3,b4⟩:=h2 ho.2;have m1:(p.num*q.num).natAbs<10 ^ 9*10 ^ 9:=by rw [Int.natAbs_mul];exact Zcm b1 b3
   have m3:((p.den:Int)*(q.den:Int)).natAbs<10 ^ 9*10 ^ 9:=by rw [Int.natAbs_mul];exact Zcm (by omega) (by omega)
   rw [zG,zA,F41.cu,au (by omega),au (by omega)];refine zt4 (by omega) (by omega) (Int.mul_ne_zero (uI p) (uI q)) hN _ _ _ _ ?_;rintro _ rfl _;rw [zjj];simp only [zF,zL];rw [F41.ret];exact hK _ _ _ _ _ H0 (zK rfl) rfl
 cases o1 with
 | true =>
  simp only [yX,zV];exact stop
 | false =>
  simp only [jL,zY];exact stop
abbrev T9 (q:Rat):AV:=.str (bJ q)
def zo2 (l:List Rat):AV:=.lst 1 l.length (l.map T9)
def zjl (c:UInt8):Nat:=c.toNat-48
theorem zky {x:Nat} (h:x<10):zjl (dch x)=x:=by unfold zjl;rw [zeo h];omega
theorem zgi (n w:Nat):bv 10 ((bG n w).map zjl).reverse=n:=by
 have e:((bG n w).map zjl).reverse=rH n w:=by
  unfold bG;rw [List.map_map,<- List.map_reverse,List.reverse_reverse]
  conv=>rhs;rw [<- List.map_id (rH n w)]
  exact List.map_congr_left fun x hx=>zky (wY n w x hx)
 rw [e,d6]
theorem zgj {n m w:Nat} (h:bG n w=bG m w):n=m:=by rw [<- zgi n w,h,zgi]
theorem zgk {a b:Int} (h:cO a=cO b):a=b:=by
 have key:∀ {a b:Int},a<0->¬ b<0->cO a≠cO b:=fun {a b} h1 h2 e=>by
  unfold cO at e;rw [if_pos h1,if_neg h2,Zbg] at e;have hm:(45:UInt8)∈bG b.natAbs 1:=by rw [<- e];simp
  exact (mC hm).2 rfl
 by_cases h1:a<0
 ·by_cases h2:b<0
  ·unfold cO at h;rw [if_pos h1,if_pos h2] at h;have:=zgj (List.append_cancel_left h);omega
  ·exact absurd h (key h1 h2)
 ·by_cases h2:b<0
  ·exact absurd h.symm (key h2 h1)
  ·unfold cO at h;rw [if_neg h1,if_neg h2,Zbg,Zbg] at h;have:=zgj h;omega
theorem zyz {a b c d:List UInt8} (ha:∀ x∈a,x≠47) (hb:∀ x∈b,x≠47) (hc:c=[]\/∃ l,c=47::l) (hd:d=[]\/∃ l,d=47::l) (h:a++c=b++d):a=b/\c=d:=by
 have tw:∀ {a c:List UInt8},(∀ x∈a,x≠47)->(c=[]\/∃ l,c=47::l)->(a++c).takeWhile (· != 47)=a:=fun {a c} ha hc=>by
  rw [List.takeWhile_append_of_pos fun x hx=>by simpa using ha x hx];rcases hc with rfl | ⟨l,rfl⟩ <;> simp
 have e:=congrArg (List.takeWhile (· != 47)) h;rw [tw ha hc,tw hb hd] at e;subst e;exact ⟨rfl,List.append_cancel_left h⟩
theorem zo3 {p q:Rat} (h:bJ p=bJ q):p=q:=by
 unfold bJ at h;have sh:∀ q:Rat,(if q.den=1 then [] else 47::cO (q.den:Int))=[]\/∃ l,(if q.den=1 then [] else 47::cO (q.den:Int))=47::l:=fun q=>by
  split
  ·exact .inl rfl
  ·exact .inr ⟨_,rfl⟩
 obtain ⟨h1,h2⟩:=zyz (fun x hx=>vR hx) (fun x hx=>vR hx) (sh p) (sh q) h;refine Rat.ext (zgk h1) ?_;split at h2 <;> split at h2
 ·omega
 ·cases h2
 ·cases h2
 ·have:=zgk (List.cons.inj h2).2;omega
theorem zv9 {a b:List UInt8} {K:AV->OP}:zh .neq .str (.str a) (.str b) K=K (.bool (!decide (a=b))):=by
 have e:zh .neq .str (.str a) (.str b) K=K (.bool (!j3 a b)):=nr rfl;rw [e];by_cases c:a=b
 ·rw [decide_eq_true c,bU.2 c]
 ·rw [decide_eq_false c];cases q:j3 a b with
  | true=>exact absurd (bU.1 q) c
  | false=>rfl
end Go.Ev
namespace Go.Ev
open Go Go.Proofs
theorem jh {B:Nat}:vY Tryz.prog B Prop:=zbw mixed
variable {B:Nat}
end Go.Ev
namespace Go.Ev
open Go Go.Proofs
variable {B:Nat}
theorem zrj (b:Bool) (e:Int):Pure Tryz.prog B 88 [.bool b,I e] (· = I (if b then e else 0)):=by
 intro p h nx K hK;refine zM zP jh 9 fun hf => ?_;rw [F88.go];cases b <;> simp (disch:=omega) only [qc,fF,au,fA,fE,qo,oC,bZ,eH,zV,zY,zG,zE,yX,jE,jM,jL,j4,jC,jB,xR,dJ,xQ,dI,yF,qP,gY,zN,decide_true,decide_false,Zah,Zak,dK] <;> exact hK _ rfl hf
def vD:List Int->Int
 | []=>0
 | e::l=>if e≠0 then e else vD l
theorem vC:∀ (l:List Int) (i:Nat),(∀ e∈l.take i,e=0)->vD l=vD (l.drop i)
 | l,0,_=>rfl
 | [],_+1,_=>rfl
 | e::l,i+1,h=>by
  have h0:e=0:=h e (by simp);rw [vD,if_neg (by simp [h0]),List.drop_succ_cons];exact vC l i fun x hx=>h x (by simp [hx])
theorem zo4 {l:List Int} (hl:l.length<=1000000):Pure Tryz.prog B 86 [encI l] (· = I (vD l)):=by
 intro p h nx K hK;refine zM zP jh 10000000 fun hf => ?_;rw [F86.go];simp (disch:=omega) only [qc,fF,au,fA,fE,qo,oC,bZ,eH,zV,zY,zG,zE,yX,jE,jM,jL,j4,jC,jB,xR,dJ,xQ,dI,yF,qP,gY,zN,decide_true,decide_false,Zah,Zak,dK];refine F86.L1 (fun m z5 h' nx'=>∃ i:Nat,z5=I i/\l.length-i=m/\i<=l.length/\h'=h/\nx'=nx/\∀ e∈l.take i,e=0) (m:=l.length) (by omega) ⟨0,rfl,rfl,by omega,rfl,rfl,by simp⟩ ?_;rintro m z1 z2 z5 z6 z7 _ _ R ⟨i,rfl,rfl,hi,rfl,rfl,htk⟩ hR;simp (disch:=omega) only [qc,fF,au,fA,fE,qo,oC,bZ,eH,zV,zY,zG,zE,yX,jE,jM,jL,j4,jC,jB,xR,dJ,xQ,dI,yF,qP,gY,zN,decide_true,decide_false,Zah,Zak,dK];by_cases hlt:i<l.length
 ·simp only [show (i:Int)<(l.length:Int) by omega,decide_true,zG];have hx:l[i]? = some l[i]:=List.getElem?_eq_getElem hlt;rw [rq rfl hlt,ldL (sV hx)];simp (disch:=omega) only [qc,fF,au,fA,fE,qo,oC,bZ,eH,zV,zY,zG,zE,yX,jE,jM,jL,j4,jC,jB,xR,dJ,xQ,dI,yF,qP,gY,zN,decide_true,decide_false,Zah,Zak,dK];have hd:l.drop i=l[i]::l.drop (i+1):=Zbt hlt;by_cases h0:l[i]=0
  ·simp only [h0,decide_true,Zah,zE];refine hR _ _ _ _ _ _ _ _ (by omega) ⟨i+1,rfl,rfl,by omega,rfl,rfl,fun e he => ?_⟩;rw [Zax,hx] at he;rcases List.mem_append.1 he with q | q
   ·exact htk e q
   ·simp at q;rw [q];exact h0
  ·simp only [h0,decide_false,Zak,zG];refine hK _ ?_ hf;rw [vC l i htk,hd,vD,if_pos h0]
 ·simp only [show ¬ (i:Int)<(l.length:Int) by omega,decide_false,zE];rw [F86.k8];refine hK _ ?_ hf;rw [vC l i htk,List.drop_of_length_le (by omega)];rfl
theorem zkz {P:Program} {f:Nat} {p id:Pa} {h0 h:T Blk} {nx:Pa} {L:List Ob} {k:Nat} {l:List Int} {K:Kw Prop} {Q:AV->Prop} (H:Hp h0 h nx L) (hk:L[k]? = some (.arr id (l.map I))) (hq:∀ B,Pure P B f [encI l] Q) (hpl:∀ v,Q v->Plain v)
  (hK:∀ v,Q v->K v h nx=.ok True):(CS P B).fn f p [.sl id 0 l.length (some l.length) 1] h nx K=.ok True :=
 zft (.cons (xk.frz (H.own _ (Zaa hk)) (T.ru _ id) (Zag _) (by simp) fun v hv=>by obtain ⟨x,_,rfl⟩:=List.mem_map.1 hv;rfl) .nil) (by
  have:=p9 l;simp only [nns,ni.nn this,Bool.and_self]) hq hpl fun v hv _=>hK v hv
theorem zo5 {h:T Blk} {nx:Pa} {l:List Int} {g:Nat} {p q:Pa} {cap:List AV} {pr:Int->Bool} {K:Kw Prop} (hl:l.length<=1000000) (hcl:∀ x∈l,∀ K:Kw Prop,K (.bool (pr x)) h nx=.ok True->(CS Tryz.prog B).fn g q (I x::cap) h nx K=.ok True)
  (hK:K (.bool (l.any pr)) h nx=.ok True):(CS Tryz.prog B).fn 173 p [encI l,.fn g q cap] h nx K=.ok True:=by
 refine jA (p:=.of 173) (K:=K) (zM zP jh 9 fun hf => ?_) fun _ _ _ _ q=>q;rw [oO.go];refine jA (p:=.of 184) (K:=fun v1 h2 n3=>zh .geq .int v1 (I 0) fun v4=>K v4 h2 n3) (zM zP jh 10000000 fun hf => ?_) fun _ _ _ _ q=>q;rw [di.go];simp (disch:=omega) only [qc,fF,au,fA,fE,qo,oC,bZ,eH,zV,zY,zG,zE,yX,jE,jM,jL,j4,jC,jB,xR,dJ,xQ,dI,yF,qP,gY,zN,decide_true,decide_false,Zah,Zak,dK];refine di.L1 (fun m z5 h' nx'=>∃ i:Nat,z5=I i/\l.length-i=m/\i<=l.length/\h'=h/\nx'=nx/\(l.take i).any pr=false) (m:=l.length) (by omega) ⟨0,rfl,rfl,by omega,rfl,rfl,by simp⟩ ?_;rintro m z2 z3 z5 z6 z7 _ _ R ⟨i,rfl,rfl,hi,rfl,rfl,htk⟩ hR;simp (disch:=omega) only [qc,fF,au,fA,fE,qo,oC,bZ,eH,zV,zY,zG,zE,yX,jE,jM,jL,j4,jC,jB,xR,dJ,xQ,dI,yF,qP,gY,zN,decide_true,decide_false,Zah,Zak,dK];by_cases hlt:i<l.length
 ·simp only [show (i:Int)<(l.length:Int) by omega,decide_true,zG];have hx:l[i]? = some l[i]:=List.getElem?_eq_getElem hlt;rw [rq rfl hlt,ldL (sV hx),gO];refine hcl _ (Zat hlt) _ ?_;cases he:pr l[i] with
  | true =>
   simp only [zG,eH,show (0:Int)<=(i:Int) by omega,decide_true];rw [List.any_eq_true.2 ⟨_,Zat hlt,he⟩] at hK;exact hK
  | false =>
   simp only [zE];refine hR _ _ _ _ _ _ _ _ (by omega) ⟨i+1,rfl,rfl,by omega,rfl,rfl,?_⟩;rw [Zax,hx,List.any_append,htk];simp [he]
 ·simp only [show ¬ (i:Int)<(l.length:Int) by omega,decide_false,zE];rw [di.k8];rw [Zae (by omega)] at htk;rw [htk] at hK;simp only [eH,show ¬ (0:Int) <= -1 by omega,decide_false];exact hK
theorem zjm {a b:Int} {l:List Int} (hl:l.length<=1000000):Pure Tryz.prog B 87 [I a,I b,encI l] (· = I (if l.any (fun x=>decide (x<a)||decide (b<x)) then 3 else 0)):=by
 refine zS fun h nx K H0 hK=>zM zP jh 1000 fun hf => ?_;rw [F87.go];refine H0.box (l:=[I a]) rfl fun x1 h1 nx1 H1 => ?_;refine H1.box (l:=[I b]) rfl fun x2 h2 nx2 H2 => ?_;refine zo5 (pr:=fun x=>decide (x<a)||decide (b<x)) hl (fun x _ K hK => ?_) ?_
 ·refine jA (p:=.of 174) (K:=K) (zM zP jh 9 fun hf => ?_) fun _ _ _ _ q=>q;show zQ tbl 9 _ (Pa.of 174) [I x,.ptr x1 0,.ptr x2 0] _ _ _=_;rw [oN.go,H2.load (k:=1) (i:=0) rfl rfl];by_cases c:x<a
  ·simp only [qo,c,decide_true,jM,zV];simpa [c] using hK
  ·simp only [qo,c,decide_false,jE];rw [H2.load (k:=0) (i:=0) rfl rfl];simp only [bZ,zY];simpa [c] using hK
 ·refine zrj _ _ _ _ _ _ ?_;rintro _ rfl _;exact hK _ _ _ _ _ H2 (zK rfl) rfl
end Go.Ev
namespace Go.Ev
abbrev srt (l:List Int):List Int:=l.mergeSort fun x y=>decide (x<=y)
theorem zh8 {l l':List Int} (hp:l'.Perm l) (hs:l'.Pairwise (· <= ·)):l'=srt l:=by
 refine (hp.trans (List.mergeSort_perm l _).symm).eq_of_pairwise (le:=(· <= ·)) ?_ hs ?_
 ·intro a b _ _ h1 h2;omega
 ·have:=List.pairwise_mergeSort (le:=fun x y:Int=>decide (x<=y)) (by intro a b c;simp;omega) (by intro a b;simp;omega) l;exact this.imp (by intro a b h;simpa using h)
theorem xP (l:List Int):(srt l).Perm l:=List.mergeSort_perm l _
structure Ins (l out:List Int) (i k:Nat):Prop where
 perm:out.Perm l
 ex:∃ (A:List Int) (x:Int) (B R:List Int),out=A++x::(B++R)/\A.length=k/\A.length+B.length=i/\(A++B).Pairwise (· <= ·)/\∀ b∈B,x<b
theorem Ins.swap {l out:List Int} {i k:Nat} (H:Ins l out i (k+1)) {a x:Int} (ha:out[k]? = some a) (hx:out[k+1]? = some x) (hlt:x<a):Ins l ((out.set (k+1) a).set k x) i k:=by
 obtain ⟨hp,A,x',B,R,rfl,hA,hi,hs,hb⟩:=H;obtain ⟨A,a',rfl⟩:∃ A' a',A=A'++[a']:=⟨A.dropLast,A.getLast (by intro q;rw [q] at hA;simp at hA),(List.dropLast_concat_getLast _).symm⟩;have hA':A.length=k:=by simpa using hA
 have e1:a'=a:=by
  rw [Zar,List.getElem?_append_right (by omega),hA',Nat.sub_self] at ha;simpa using ha
 have e2:x'=x:=by
  rw [List.getElem?_append_right (by simp;omega)] at hx;simp [hA'] at hx;exact hx
 subst e1 e2;have e3:((A++[a']++x'::(B++R)).set (k+1) a').set k x'=A++x'::((a'::B)++R):=by
  have h1:(A++[a']++x'::(B++R)).set (k+1) a'=A++a'::a'::(B++R):=by
   rw [Zar,List.set_append_right _ _ (by omega),hA',show k+1-k=1 by omega];rfl
  rw [h1,List.set_append_right _ _ (by omega),hA',Nat.sub_self];rfl
 rw [e3];refine ⟨List.Perm.trans ?_ hp,A,x',a'::B,R,rfl,hA',by simp at hi ⊢;omega,by simpa [Zar] using hs,?_⟩
 ·rw [Zar];refine List.Perm.append_left A ?_;exact List.Perm.swap _ _ _
 ·intro b hb';rcases List.mem_cons.1 hb' with rfl | q
  ·exact hlt
  ·exact hb b q
theorem Ins.done {l out:List Int} {i k:Nat} (H:Ins l out i k) (h:k=0\/∃ j a x,k=j+1/\out[j]? = some a/\out[k]? = some x/\¬ x<a):out.Perm l/\(out.take (i+1)).Pairwise (· <= ·):=by
 obtain ⟨hp,A,x,B,R,rfl,hA,hi,hs,hb⟩:=H;refine ⟨hp,?_⟩;have e:(A++x::(B++R)).take (i+1)=A++x::B:=by
  rw [show A++x::(B++R)=(A++x::B)++R by simp];exact List.take_left' (by simp;omega)
 rw [e];have hs':=List.pairwise_append.1 hs;refine List.pairwise_append.2 ⟨hs'.1,List.pairwise_cons.2 ⟨fun b hb'=>by have:=hb b hb';omega,hs'.2.1⟩,?_⟩;have key:∀ a∈A,a<=x:=by
  rcases h with rfl | ⟨j,a0,x0,rfl,h1,h2,h3⟩
  ·obtain rfl:A=[]:=Zch hA;simp
  ·obtain ⟨A,a',rfl⟩:∃ A' a',A=A'++[a']:=⟨A.dropLast,A.getLast (by intro q;rw [q] at hA;simp at hA),(List.dropLast_concat_getLast _).symm⟩;have hA':A.length=j:=by simpa using hA
   have e1:a'=a0:=by
    rw [Zar,List.getElem?_append_right (by omega),hA',Nat.sub_self] at h1;simpa using h1
   have e2:x=x0:=by
    rw [List.getElem?_append_right (by simp;omega)] at h2;simp [hA'] at h2;exact h2
   subst e1 e2;intro a ha;rcases List.mem_append.1 ha with q | q
   ·have:=(List.pairwise_append.1 hs'.1).2.2 a q a' (by simp);omega
   ·simp at q;omega
 intro a ha b hb';rcases List.mem_cons.1 hb' with rfl | q
 ·exact key a ha
 ·exact hs'.2.2 a ha b q
def incr (d:List Int) (c:Int):List Int:=d.set c.toNat (d.getD c.toNat 0+1)
@[simp] theorem zt5 (d:List Int) (c:Int):(incr d c).length=d.length:=by simp [incr]
def Bd (d:List Int) (M:Nat):Prop:=∀ v∈d,0<=v/\v<=(M:Int)
theorem Bd.incr {d:List Int} {M:Nat} (h:Bd d M) {c:Int} (hc:c.toNat<d.length):Bd (incr d c) (M+1):=by
 intro v hv;rcases List.mem_or_eq_of_mem_set hv with q | rfl
 ·have:=h v q;omega
 ·rw [Zad,List.getElem?_eq_getElem hc];have:=h _ (Zat hc);simp only [Option.getD_some];omega
theorem Bd.mono {d:List Int} {M N:Nat} (h:Bd d M) (hm:M<=N):Bd d N:=fun v hv=>by have:=h v hv;omega
theorem Bd.srt {d:List Int} {M:Nat} (h:Bd d M):Bd (Ev.srt d) M:=fun v hv=>h v ((xP d).mem_iff.1 hv)
@[simp] theorem zh9 (d:List Int):(Ev.srt d).length=d.length:=(xP d).length_eq
end Go.Ev
namespace Go.Ev
open Go Go.Proofs
variable {B:Nat}
set_option maxRecDepth 100000
theorem zk0 {h:T Blk} (a:AV) (l:List AV) (K:AV->OP):zC (.fp (a::l)) h K=K a:=nr rfl
theorem zk1 {P:Program} {id:Pa} {args:List AV} {h:T Blk} {nx:Pa} {K:Kw Prop}:uW (CS P B) (.yld id) args h nx K=(CS P B).yld id args h nx K:=nr rfl
theorem zrk {h:T Blk} {nx:Pa} {p id:Pa} {l:List Int} {K:Kw Prop} (J:Nat->T Blk->Pa->Prop) (hl:l.length<=1000000) (hJ:J 0 h nx)
  (step:∀ (i:Nat) (x:Int) (h:T Blk) (nx:Pa) (K:Kw Prop),l[i]? = some x->J i h nx->Fr h nx->(∀ h' nx',J (i+1) h' nx'->K (.bool true) h' nx'=.ok True)->(CS Tryz.prog B).yld id [I x] h nx K=.ok True)
  (fr:∀ i h nx,J i h nx->Fr h nx) (hK:∀ h' nx',J l.length h' nx'->K (.tup []) h' nx'=.ok True):(CS Tryz.prog B).fn 244 p [.yld id,.fp [encI l]] h nx K=.ok True:=by
 refine jA (p:=.of 244) (K:=K) (zM zP jh 10000000 fun hf => ?_) fun _ _ _ _ q=>q;rw [bK.go,zk0];simp only [yF];refine bK.L1 (fun m z5 h' nx'=>∃ i:Nat,z5=I i/\l.length-i=m/\i<=l.length/\J i h' nx') (m:=l.length) (by omega) ⟨0,rfl,rfl,by omega,hJ⟩ ?_;rintro m z2 z5 z6 z7 h1 nx1 R ⟨i,rfl,rfl,hi,hJ1⟩ hR;simp (disch:=omega) only [qc,fF,au,fA,fE,qo,oC,bZ,eH,zV,zY,zG,zE,yX,jE,jM,jL,j4,jC,jB,xR,dJ,xQ,dI,yF,qP,gY,zN,decide_true,decide_false,Zah,Zak,dK];by_cases hlt:i<l.length
 ·simp only [show (i:Int)<(l.length:Int) by omega,decide_true,zG];have hx:l[i]? = some l[i]:=List.getElem?_eq_getElem hlt;rw [rq rfl hlt,ldL (sV hx),zk1];refine step i _ _ _ _ hx hJ1 (fr _ _ _ hJ1) fun h2 nx2 hJ2 => ?_;simp only [j4,Zah,zE]
  try rw [qc (by omega)]
  exact hR _ _ _ _ _ _ _ (by omega) ⟨i+1,rfl,rfl,by omega,hJ2⟩
 ·simp only [show ¬ (i:Int)<(l.length:Int) by omega,decide_false,zE];obtain rfl:i=l.length:=by omega
  exact hK _ _ hJ1
theorem Hp.zad {h0 h:T Blk} {nx:Pa} {L:List Ob} (H:Hp h0 h nx L) (e:Nat):Hp h0 h nx (.gro none e 0 []::L) :=
  ⟨H.keep,fun x hx=>by rcases List.mem_cons.1 hx with rfl | q;· exact ⟨rfl,rfl⟩
                       · exact H.own x q,fun n hn=>H.off n (by simpa [Ob.names] using hn),by have:=H.nd;simpa [Ob.names] using this,H.fr⟩
theorem getLoop {h0 h:T Blk} {nx:Pa} {L:List Ob} {id:Pa} {b:Blk} {k:Nat} (H:Hp h0 h nx L) (hk:L[k]? = some (.raw id b)):T.get .no id h=b:=(H.own _ (Zaa hk)).1
theorem Hp.zwa {h0 h:T Blk} {nx:Pa} {L:List Ob} {id:Pa} {b b':Blk} {k:Nat} (H:Hp h0 h nx L) (hk:L[k]? = some (.raw id b)) (hb:b'≠.no):Hp h0 (T.set .no b' id h) nx (L.set k (.raw id b')) :=
 H.upd hk (by simp [Ob.names]) rfl ⟨T.get_set_same _ _ _ _,hb⟩
theorem zk2 {h0 h:T Blk} {nx:Pa} {L:List Ob} {p q:Pa} {l:List Int} {K:Kw Prop} (hl:l.length<=100000) (H:Hp h0 h nx L)
  (hK:∀ o h' nx',Hp h0 h' nx' (.gro o 1 l.length (l.map I)::L)->K (cZ o 1 l.length) h' nx'=.ok True):(CS Tryz.prog B).fn 282 p [.zf,.fn 244 q [.fp [encI l]]] h nx K=.ok True:=by
 refine jA (p:=.of 282) (K:=K) (zM zP jh 10000000 fun hf => ?_) fun _ _ _ _ q=>q;rw [bI.go];refine H.box (l:=[.zf]) rfl fun bx h1 nx1 H1 => ?_;refine H1.rf (g:=244) (p:=q) (cap:=[.fp [encI l]]) rfl fun id h2 nx2 H2 => ?_;refine zrk (fun i h' nx'=>∃ o,Hp h0 h' nx' (.raw id (.loop .ready .none (bI.fr .zf (.fn 244 q [.fp [encI l]]) (.ptr bx 0) .zf .u (.fn 244 q [.fp [encI l]]) .u) [.of 6] bI.b3 bI.b4)::.arr bx [cZ o 1 i]::.gro o 1 i ((l.take i).map I)::L)) (by omega) ⟨none,?_⟩ ?_ (fun _ _ _ ⟨_,q⟩=>q.fr) ?_
 ·have:=H2.zad 1;exact this.perm ((List.Perm.swap _ _ _).trans (.cons _ (.swap _ _ _)))
 ·rintro i x h3 nx3 K3 hx ⟨o,H3⟩ _ hnext;have hi:i<l.length:=(List.getElem?_eq_some_iff.1 hx).1;refine zm6 (fns:=tbl) jh 100 fun hf => ?_;rw [bI.y4 (getLoop H3 (k:=0) rfl) rfl];have H4:=H3.zwa (k:=0) rfl (b':=.loop .busy .none (bI.fr .zf (.fn 244 q [.fp [encI l]]) (.ptr bx 0) .zf .u (.fn 244 q [.fp [encI l]]) .u) [.of 6] bI.b3 bI.b4) (by intro e;cases e);rw [H4.load (k:=1) (i:=0) rfl rfl];refine H4.yg (l:=[I x]) rfl fun e5 h5 nx5 H5 => ?_;refine H5.appN (k:=3) (o:=o) (c:=1) (new:=[I x]) rfl (xk.rd (l:=[I x]) (n:=1) (H5.own _ (Zal ..)) rfl) rfl rfl (by decide) (by decide) (by omega) fun o' h6 nx6 ho H6 => ?_;refine H6.store (k:=2) rfl (by simp) (wV _ _ _) fun h7 H7 => ?_;refine H7.rend (k:=1) rfl fun h8 H8 => ?_;refine hnext _ _ ⟨o',(H8.drop).cast ?_⟩;have e1:(l.take (i+1)).map I=(l.take i).map I++[I x]:=by rw [Zax,hx];simp
  rw [e1];rfl
 ·rintro h3 nx3 ⟨o,H3⟩;rw [List.take_length] at H3;refine H3.za7 fun h4 H4 => ?_;rw [zng,bI.k6,H4.load (k:=0) (i:=0) rfl rfl];exact hK _ _ _ H4.drop
theorem zk3 {l:List Int}:Pure Tryz.prog B 171 [encI l] (· = .fn 244 (.of 244) [.fp [encI l]]):=by
 refine zS fun h nx K H0 hK=>zM zP jh 10000000 fun hf => ?_;rw [oP.go];refine H0.box (l:=[encI l]) rfl fun bx h1 nx1 H1 => ?_;obtain ⟨op,t,g1,g2⟩:xk h1 bx [encI l]:=H1.own _ (Zal ..);refine hK _ _ _ _ (.fn 244 (.of 244) [.fp [encI l]]) H1 (.fn _ _ _ _ rfl fun i v v' h2 h3 => ?_) rfl
 match i with
 | 0 =>
  simp only [List.getElem?_cons_zero,Option.some.injEq] at h2 h3;subst h2 h3;refine .ptr _ _ op _ t _ (H1.off bx (by simp [Ob.names])) g1 (by simp) (by simp [xg]) fun i v hv => ?_
  match i with
  | 0 =>
   simp only [List.getElem?_cons_zero,Option.some.injEq] at hv;subst hv;have:=yO t 0 1 0 (by omega);have g2:yI t 0 1=[encI l]:=g2;rw [g2] at this;simp only [List.getElem?_cons_zero,Option.some.injEq] at this;rw [<- this];exact zK (p9 l)
  | i+1=>simp at hv
 | i+1=>simp at h2
end Go.Ev
namespace Go.Ev
open Go Go.Proofs Go.RowKit Go.Sort
def wH:List AV->Option (List Int)
 | []=>some []
 | .int k n::l=>match k with
  | .i64=>match wH l with
   | some xs=>some (n::xs)
   | none=>none
  | _=>none
 | _=>none
theorem zgl:∀ {l:List AV} {xs:List Int},wH l=some xs->l=xs.map I
 | [],xs,h=>by simp [wH] at h;subst h;rfl
 | x::l,xs,h=>by
  cases x <;> first | (simp [wH] at h;done) | skip
  rename_i k n;cases k <;> first | (simp [wH] at h;done) | skip
  simp only [wH] at h;cases hl:wH l with
  | none=>simp [hl] at h
  | some ys=>simp [hl] at h;subst h;simp [zgl hl]
theorem zk4 (l:List Int):wH (l.map I)=some l:=by
 induction l with
 | nil=>rfl
 | cons a l ih=>show (match wH (l.map I) with | some xs=>some (a::xs) | none=>none)=_;rw [ih]
def zgm (v:AV) (h:T Blk):Option (T Blk):=match v with
 | .sl id off ln _ esz=>match T.get .no id h with
  | .cells op m t=>bif Nat.beq esz 1&&Nat.ble (off+ln) m&&Nat.ble ln 1000000 then (match wH (yI t off ln) with
   | some l=>some (T.set .no (.cells op m (jG ((srt l).map I) t off)) id h)
   | none=>none) else none
  | _=>none
 | .zf=>some h
 | _=>none
def xY (f:Nat) (args:List AV) (h:T Blk):Option (AV×T Blk):=bif Nat.beq f 243 then (match args with
 | [v]=>match zgm v h with
  | some h=>some (.tup [],h)
  | none=>none
 | _=>none) else none
theorem HR.sorted {P:Program} {B:Nat} {E:Env} {h:T Blk} {nx:Pa} {w:World} (H:HR P B E h nx w) {id:Pa} {op:Bool} {m off b n k:Nat} {t:T AV} {l l':List Int} {os:Array Obj} (hb:T.get .no id h=.cells op m t) (hE:E id=some (b,n))
  (hl':l'.length=l.length) (hm:off+l.length<=m) :
  HR P B E (T.set .no (.cells op m (jG (l'.map I) t off)) id h) nx (grow (putRow (Value.int .i64) (Sort.ahead w k) b off l'.toArray) os)/\Ex E E w (grow (putRow (Value.int .i64) (Sort.ahead w k) b off l'.toArray) os):=by
 have hid:T.get .no id h≠.no:=by rw [hb];intro e;cases e
 obtain ⟨b',n',o,h1,h2,h3⟩:=H.blk id hid;rw [hE] at h1;cases h1;rw [hb] at h3;obtain ⟨c,ty,fr,rfl,q1,q2,q3,q4,q5⟩:=h3;have hcs:(putCells (Value.int .i64) off l'.toArray c).size=c.size:=by simp [putCells]
 have hbr:BR P E n (.cells op m (jG (l'.map I) t off)) (.cells (putCells (Value.int .i64) off l'.toArray c) ty fr):=by
  refine ⟨_,ty,fr,rfl,by rw [hcs];exact q1,by rw [hcs];exact q2,q3,q4,fun i hi => ?_⟩;rw [uL];have hic:i<c.size:=by omega
  have hce:(putCells (Value.int .i64) off l'.toArray c)[i]? = some (if off<=i/\i<off+l'.length then Value.int .i64 (l'.toArray[i-off]!) else c[i]):=by
   simp [putCells,Array.getElem?_eq_getElem hic]
  rw [Zao];by_cases hr:off<=i/\i<off+l'.length
  ·rw [if_pos hr];rw [if_pos hr] at hce;have hj:i-off<l'.length:=by omega
   have e1:(l'.map I).getD (i-off) .u=I l'[i-off]:=by
    rw [Zad,List.getElem?_map,List.getElem?_eq_getElem hj];rfl
   have e2:l'.toArray[i-off]! = l'[i-off]:=by simp [getElem!_pos,hj]
   rw [e1];exact ⟨rfl,_,hce,by rw [e2];simp only [VR]⟩
  ·rw [if_neg hr];rw [if_neg hr] at hce;obtain ⟨r1,v,r2,r3⟩:=q5 i hi;rw [Array.getElem?_eq_getElem hic] at r2;exact ⟨r1,_,hce,by rw [Option.some.inj r2];exact r3⟩
 have H1:=H.put hid hE hbr;have X1:Ex E E w (w.putObj b (.cells (putCells (Value.int .i64) off l'.toArray c) ty fr)):=Ex.put hE h2 fun L hL=>by cases hL
 have hbl:b<w.heap.size:=(Array.getElem?_eq_some_iff.1 h2).1;have hBel:Below (w.putObj b (.cells (putCells (Value.int .i64) off l'.toArray c) ty fr)).heap.size (w.putObj b (.cells (putCells (Value.int .i64) off l'.toArray c) ty fr)) (grow (putRow (Value.int .i64) (Sort.ahead w k) b off l'.toArray) os):=by
  refine ⟨rfl,rfl,rfl,?_,fun j hj => ?_⟩
  ·rw [World.putObj_size];simp [grow,putRow,mapBlock,Sort.ahead]
  ·rw [World.putObj_size] at hj;have e1:(grow (putRow (Value.int .i64) (Sort.ahead w k) b off l'.toArray) os).heap[j]? = (w.heap.modify b (onCells (putCells (Value.int .i64) off l'.toArray)))[j]? := by
    show (w.heap.modify b (onCells (putCells (Value.int .i64) off l'.toArray))++os)[j]? = _;rw [Array.getElem?_append_left (by simpa using hj)]
   rw [e1,Array.getElem?_modify];by_cases e:b=j
   ·subst e;rw [if_pos rfl,h2,uJ _ hbl];rfl
   ·rw [if_neg e,yN _ (fun q=>e q.symm)]
 obtain ⟨r1,r2⟩:=H1.below hBel;exact ⟨r1,X1.trans r2⟩
theorem zn3 {B:Nat} (law:∀ (blk off cap:Nat) (zs:List Int) (w:World),Holds (Value.int .i64) w blk off zs.toArray->blk<w.heap.size->zs.length<4611686018427387904 ->
   Go.Calls Tryz.prog 243 #[.slice (some ⟨blk,off,none⟩) zs.length cap] w fun e w'=>e=.returned (.tuple #[])/\∃ n os,w'=grow (putRow (Value.int .i64) (Sort.ahead w n) blk off (zs.mergeSort fun x y=>decide (x<=y)).toArray) os)
  (law0:∀ (p:Option Addr) (cap:Nat) (w:World),Go.Calls Tryz.prog 243 #[.slice p 0 cap] w fun e w'=>e=.returned (.tuple #[])/\w'=w):JOk Tryz.prog B xY:=by
 intro E h nx w f args vs v h2 H hv hj;unfold xY at hj;cases hf:Nat.beq f 243 with
 | false=>simp [hf] at hj
 | true =>
  obtain rfl:=yD hf;rw [hf,cond_true] at hj;split at hj
  case h_2=>cases hj
  rename_i _ x;cases hjj:zgm x h with
  | none=>simp [hjj] at hj
  | some hs =>
  simp only [hjj,Option.some.injEq,Prod.mk.injEq] at hj;obtain ⟨rfl,rfl⟩:=hj;refine ⟨(),trivial,trivial,trivial,fun n=>.inl ⟨_,Tryz.func243,by kernel_rfl,by kernel_rfl,callsIn_wide.2 ?_⟩⟩;obtain ⟨l⟩:=vs;simp only [VRL] at hv;obtain ⟨u,_,rfl,hu,rfl⟩:=hv;unfold zgm at hjj;split at hjj
  ·rename_i id off ln cap esz;split at hjj
   ·rename_i op m t hb;cases hq:(Nat.beq esz 1&&Nat.ble (off+ln) m&&Nat.ble ln 1000000) with
    | false=>simp [hq] at hjj
    | true =>
     rw [hq,cond_true] at hjj;simp only [Zac] at hq;obtain ⟨⟨q1,q2⟩,q3⟩:=hq;obtain rfl:=yD q1;have q2:=yB q2;have q3:=yB q3;cases hx:wH (yI t off ln) with
     | none=>simp [hx] at hjj
     | some xs =>
      simp only [hx,Option.some.injEq] at hjj;subst hjj;have hxs:=zgl hx;have hln:xs.length=ln:=by
       have:=congrArg List.length hxs;simpa using this.symm
      obtain ⟨b,n,c,hE,rfl,hcap⟩:=hu.sD;obtain ⟨b',n',o,h1,h2,h3⟩:=H.blk id (by rw [hb];intro e;cases e);rw [hE] at h1;cases h1;rw [hb] at h3;obtain ⟨cs,ty,fr,rfl,g1,g2,g3,g4,hc⟩:=h3;have hH:Holds (Value.int .i64) w b off xs.toArray:=by
       intro j hj;have hj:j<xs.length:=by simpa using hj
       obtain ⟨_,v',k1,k2⟩:=hc (off+j) (by omega);have he:T.get .u (.of (off+j)) t=I xs[j]:=by
        have e1:=yO t off ln j (by omega);rw [hxs,List.getElem?_map,List.getElem?_eq_getElem hj] at e1;exact (Option.some.inj e1).symm
       rw [he] at k2;simp only [VR] at k2;subst k2;have e2:xs.toArray[j]! = xs[j]:=by simp [getElem!_pos,hj]
       rw [e2];refine ⟨by simp [World.cell?,h2,k1],?_⟩;have:=g1 (off+j) (Array.getElem?_eq_some_iff.1 k1).1;simp only [World.frozen?,h2];obtain ⟨lo,hi⟩:=fr;simp only [Bool.and_eq_false_iff,decide_eq_false_iff_not];simp only at this;omega
      rw [<- hln];refine (law b off c xs w hH (H.lt _ _ _ hE).2 (by omega)).mono ?_;rintro e w' ⟨rfl,k,os,rfl⟩;have hp:(srt xs).length=xs.length:=(xP xs).length_eq;obtain ⟨r1,r2⟩:=H.sorted (off:=off) (l:=xs) (l':=srt xs) (k:=k) (os:=os) hb hE hp (by omega);exact ⟨_,E,rfl,by simp only [VR,VRL];exact ⟨_,rfl,rfl⟩,r1,r2⟩
   ·cases hjj
  ·obtain rfl:=(Option.some.inj hjj).symm;simp only [VR] at hu;subst hu;refine (law0 none 0 w).mono ?_;rintro e w' ⟨rfl,rfl⟩;exact ⟨_,E,rfl,by simp only [VR,VRL];exact ⟨_,rfl,rfl⟩,H,.refl _ _⟩
  ·cases hjj
end Go.Ev
namespace Go.Ev
open Go Go.Proofs
variable {B:Nat}
theorem zrl {h0 h:T Blk} {nx p:Pa} {L:List Ob} {k n:Nat} {o:Option Pa} {l:List Int} {K:Kw Prop} (hj:∀ B,JOk Tryz.prog B xY) (H:Hp h0 h nx L) (hk:L[k]? = some (.gro o 1 n (l.map I))) (hn:n<=1000000)
  (hK:∀ h',Hp h0 h' nx (L.set k (.gro o 1 n ((srt l).map I)))->K (.tup []) h' nx=.ok True):(CS Tryz.prog B).fn 243 p [cZ o 1 n] h nx K=.ok True:=by
 have own:=H.own _ (Zaa hk);cases o with
 | none =>
  obtain ⟨q1,rfl⟩:=own;obtain rfl:l=[]:=by simpa using q1
  refine zi0 (hj B) (v:=.tup []) (h2:=h) rfl (hK h (H.cast ?_));have e:(srt ([]:List Int)).map I=[]:=by simp [srt]
  rw [e,(wJ hk).2];exact (wJ hk).1
 | some id =>
  obtain ⟨t,h1,h2,h3⟩:=own;rw [Zbm] at h1 h2 h3;have e1:zgm (.sl id 0 n none 1) h=some (T.set Blk.no (Blk.cells true n (jG ((srt l).map I) t 0)) id h):=by
   show (match T.get Blk.no id h with
    | .cells op m t=>bif Nat.beq 1 1&&Nat.ble (0+n) m&&Nat.ble n 1000000 then (match wH (yI t 0 n) with
     | some l=>some (T.set Blk.no (Blk.cells op m (jG ((srt l).map I) t 0)) id h)
     | none=>none) else none
    | _=>none)=_
   rw [h1]
   show (bif Nat.beq 1 1&&Nat.ble (0+n) n&&Nat.ble n 1000000 then (match wH (yI t 0 n) with
     | some l=>some (T.set Blk.no (Blk.cells true n (jG ((srt l).map I) t 0)) id h)
     | none=>none) else none)=_
   rw [Zab (by omega),Zab hn,h3,zk4];rfl
  have e2:xY 243 [cZ (some id) 1 n] h=some (.tup [],T.set Blk.no (Blk.cells true n (jG ((srt l).map I) t 0)) id h):=by
   show (match zgm (.sl id 0 n none 1) h with
    | some h=>some ((.tup []:AV),h)
    | none=>none)=_
   rw [e1]
  refine zi0 (hj B) e2 (hK _ (H.upd hk (by simp [Ob.names]) rfl ⟨_,by rw [T.get_set_same,Zbm],by simpa using h2,?_⟩));have:=wD t [] ((srt l).map I) 0 rfl;rw [Zay,Zbg] at this;have hl:((srt l).map I).length=n:=by simpa using h2
  rw [hl] at this;rw [Zbm];exact this
theorem zk5 {l:List Int} (hj:∀ B,JOk Tryz.prog B xY) (hl:l.length<=100000):Pure Tryz.prog B 170 [.fn 244 (.of 244) [.fp [encI l]]] (· = encI (srt l)):=by
 refine zS fun h nx K H0 hK=>zM zP jh 100 fun hf => ?_;rw [oQ.go];refine jA (p:=.of 242) (K:=fun v1 h2 n3=>(CS Tryz.prog B).fn 243 (.of 243) [v1] h2 n3 fun v4 h5 n6=>K v1 h5 n6) (zM zP jh 100 fun hf => ?_) fun _ _ _ _ q=>q;rw [oU.go];refine zk2 hl H0 fun o h1 nx1 H1 => ?_;refine zrl hj H1 (k:=0) rfl (by omega) fun h2 H2 => ?_;refine hK _ _ _ _ _ H2 (H2.ah (k:=0) rfl (by intro v hv;obtain ⟨t,_,rfl⟩:=List.mem_map.1 hv;rfl)) ?_;show _=AV.lst 1 _ _;rw [zh9]
theorem zwb {a:Int} {n:Nat} (h:0<=a) (hn:0<n):0<=a.tdiv n/\a.tdiv n<=a:=by
 rw [Int.tdiv_eq_ediv_of_nonneg h];exact ⟨Int.ediv_nonneg h (by omega),Int.ediv_le_self _ h⟩
theorem zy0 {a:Int} {n:Nat} {K:AV->OP} (h:0<=a) (h2:a<=9223372036854775807) (hn:0<n):zh .quo .int (I a) (I (n:Int)) K=K (I (a.tdiv n)):=by
 obtain ⟨q1,q2⟩:=zwb h hn;have e:zh .quo .int (I a) (I (n:Int)) K=(bif ieq (n:Int) 0 then Out.no 5 else bn (IntKind.wrap .i64 (a.tdiv n)) fun z=>K (.int .i64 z)):=rfl;rw [e,qY];have hb:((n:Int)==0)=false:=by simp;omega
 rw [hb,cond_false,j9,uT (by omega)]
theorem zrm {n:Int} {K:AV->OP}:yV [(I 0),.zf] [(0,1,I n)] K=K (.agg [I n,.zf]):=nr rfl
theorem zk6 (o:Option Pa) (e n:Nat):xg (cZ o e n)=true:=by cases o <;> rfl
end Go.Ev
namespace Go.Ev
def zy1 (s:List Int) (v x:Int):List Int:=s.set v.toNat (s.getD v.toNat 0+x)
def Sm (s:List Int) (M:Nat):Prop:=∀ v∈s,0<=v/\v<=(M:Int)
theorem Sm.get {s:List Int} {M:Nat} (h:Sm s M) (i:Nat):0<=s.getD i 0/\s.getD i 0<=(M:Int):=by
 rw [Zad];cases e:s[i]? with
 | none=>simp
 | some v=>exact h v (Zaa e)
theorem Sm.mono {s:List Int} {M N:Nat} (h:Sm s M) (hm:M<=N):Sm s N:=fun v hv=>by have:=h v hv;omega
theorem Sm.add {s:List Int} {M X:Nat} {v x:Int} (h:Sm s M) (hx:0<=x/\x<=(X:Int)):Sm (zy1 s v x) (M+X):=by
 intro u hu;have g:=h.get v.toNat;rcases List.mem_or_eq_of_mem_set hu with q | rfl
 ·have:=h u q;omega
 ·omega
theorem zgn:∀ (l r:List Int),l.Nodup->(∀ x∈l,x∈r)->∃ s,r.Perm (l++s)
 | [],r,_,_=>⟨r,.refl _⟩
 | a::l,r,hn,hs=>by
  obtain ⟨h1,h2⟩:=List.nodup_cons.1 hn;have ha:=hs a (by simp);obtain ⟨s,hp⟩:=zgn l (r.erase a) h2 fun x hx=>(List.mem_erase_of_ne (by rintro rfl;exact h1 hx)).2 (hs x (by simp [hx]));exact ⟨s,(List.perm_cons_erase ha).trans (.cons a hp)⟩
abbrev upTo (n:Nat):List Int:=(List.range n).map fun (i:Nat)=>(i:Int)+1
def Rv (l cur:List Int) (i:Nat):Prop:=cur.length=l.length/\∀ t,t<l.length->cur[t]? = if t<i\/l.length<=t+i then l[l.length-1-t]? else l[t]?
theorem Rv.done {l cur:List Int} {i:Nat} (h:Rv l cur i) (hi:l.length<=2*i+1):cur=l.reverse:=by
 refine Zbv fun t => ?_;by_cases ht:t<l.length
 ·rw [h.2 t ht,List.getElem?_reverse ht];by_cases c:t<i\/l.length<=t+i
  ·rw [if_pos c]
  ·rw [if_neg c,show l.length-1-t=t by omega]
 ·rw [List.getElem?_eq_none (by rw [h.1];omega),List.getElem?_eq_none (by simp;omega)]
theorem Rv.step {l cur:List Int} {i j:Nat} {a b:Int} (h:Rv l cur i) (hij:i<j) (hs:i+j+1=l.length) (ha:cur[i]? = some a) (hb:cur[j]? = some b):Rv l ((cur.set i b).set j a) (i+1):=by
 obtain ⟨hl,hg⟩:=h;refine ⟨by simp [hl],fun t ht => ?_⟩;have e1:=hg i (by omega);have e2:=hg j (by omega);rw [if_neg (by omega),ha] at e1;rw [if_neg (by omega),hb] at e2;rw [List.getElem?_set,List.getElem?_set,List.length_set];by_cases c1:j=t
 ·subst c1;rw [if_pos rfl,if_pos (by omega),if_pos (by omega),show l.length-1-j=i by omega];exact e1
 ·rw [if_neg c1];by_cases c2:i=t
  ·subst c2;rw [if_pos rfl,if_pos (by omega),if_pos (by omega),show l.length-1-i=j by omega];exact e2
  ·rw [if_neg c2,hg t ht];by_cases c3:t<i\/l.length<=t+i
   ·rw [if_pos c3,if_pos (by omega)]
   ·rw [if_neg c3,if_neg (by omega)]
section
variable {σ α:Type}
end
end Go.Ev
namespace Go.Ev
def SpOK (M:Int) (q:List (Int×Int)):Prop:=q.Pairwise (fun a b=>a.1<b.1)/\∀ p∈q,0<=p.1/\p.1<=M
theorem SpOK.len {q:List (Int×Int)} (h:SpOK 9000 q):q.length<=9001:=by
 obtain ⟨t,ht⟩:=zgn (q.map (·.1)) ((List.range 9001).map fun (i:Nat)=>(i:Int)) (by
  rw [List.nodup_iff_pairwise_ne,List.pairwise_map];exact h.1.imp fun {a b} q e=>by omega) fun x hx=>by
  obtain ⟨p,hp,rfl⟩:=List.mem_map.1 hx;have:=h.2 p hp;exact List.mem_map.2 ⟨p.1.toNat,List.mem_range.2 (by omega),by omega⟩
 have:=ht.length_eq;rw [Zao,List.length_range,Zaf,Zao] at this;omega
end Go.Ev
