import Derived.Test.YtbghckepkajplabGreatDoorEvA
import Derived.IntWalk
import Derived.RangeFuncLeaves
import Derived.Laws.Cells
import Derived.Laws.Tables
import Derived.Laws.BytesString
import Derived.Lib.Strings
import Derived.ChangeKeysEq
import Derived.Laws.StructEq
set_option linter.unusedSimpArgs false
set_option linter.unusedVariables false
namespace Go.Ev
open Go
theorem aL {a b:Nat} (h:a≠b):Nat.beq a b=false:=Zdx.2 λe=>h (Nat.eq_of_beq_eq_true e)
theorem aZ {a b:Nat} (h:a=b):Nat.beq a b=true:=by subst h;exact Zbz a
theorem bleF {a b:Nat} (h:¬ a<=b):Nat.ble a b=false:=Zdx.2 λe=>h (Nat.le_of_ble_eq_true e)
theorem yM {a b:Nat} (h:Nat.beq a b=true):a=b:=Nat.eq_of_beq_eq_true h
theorem yG {a b:Nat} (h:Nat.ble a b=true):a<=b:=Nat.le_of_ble_eq_true h
theorem Pa.aj (p:Pa):p.succ.toNat=p.toNat+1:=by
 induction p with
 | z=>rfl
 | l p ih=>rfl
 | r p ih =>
  show 2*(Pa.succ p).toNat+1=_;rw [ih];simp [Pa.toNat];omega
theorem Pa.zhj (d n:Nat):Pa.zak (d+1) n =
  bif Nat.beq n 0 then .z else bif Nat.beq (n%2) 1 then .l (Pa.zak d (n / 2)) else .r (Pa.zak d (n / 2-1)):=rfl
theorem Pa.zfl (d n:Nat) (h:n<d):(Pa.zak d n).toNat=n:=by
 induction d generalizing n with
 | zero=>omega
 | succ d ih =>
  rw [Pa.zhj];by_cases h0:n=0
  .subst h0;rfl
  .have e0:Nat.beq n 0=false:=aL h0;rw [e0,cond_false];by_cases h1:n%2=1
   .have e1:Nat.beq (n%2) 1=true:=aZ h1;rw [e1,cond_true,Pa.toNat,ih _ (by omega)];omega
   .have e1:Nat.beq (n%2) 1=false:=aL h1;rw [e1,cond_false,Pa.toNat,ih _ (by omega)];omega
@[simp] theorem Pa.qcy (n:Nat):(Pa.of n).toNat=n:=Pa.zfl _ _ (by omega)
theorem Pa.zqq {a b:Nat} (h:Pa.of a=Pa.of b):a=b:=by
 have:=congrArg Pa.toNat h;simpa using this
theorem Pa.toNat_inj:∀ {p q:Pa},p.toNat=q.toNat->p=q
 | .z,.z,_=>rfl
 | .z,.l _,h=>by simp [Pa.toNat] at h
 | .z,.r _,h=>by simp [Pa.toNat] at h
 | .l _,.z,h=>by simp [Pa.toNat] at h
 | .r _,.z,h=>by simp [Pa.toNat] at h
 | .l p,.l q,h=>by rw [Pa.toNat_inj (p:=p) (q:=q) (by simp [Pa.toNat] at h;omega)]
 | .r p,.r q,h=>by rw [Pa.toNat_inj (p:=p) (q:=q) (by simp [Pa.toNat] at h;omega)]
 | .l p,.r q,h=>by simp [Pa.toNat] at h;omega
 | .r p,.l q,h=>by simp [Pa.toNat] at h;omega
def T.set {α:Type} (d x:α):Pa->T α->T α
 | .z,.e=>.n .e x .e
 | .z,.n l _ r=>.n l x r
 | .l p,.e=>.n (T.set d x p .e) d .e
 | .l p,.n l v r=>.n (T.set d x p l) v r
 | .r p,.e=>.n .e d (T.set d x p .e)
 | .r p,.n l v r=>.n l v (T.set d x p r)
section
variable {α β:Type} (d x:α)
theorem T.jo (p:Pa) (t:T α) (k:T α->β):T.fq d x p t k=k (T.set d x p t):=by
 induction p generalizing t k with
 | z=>cases t <;> rfl
 | l p ih =>
  cases t with
  | e=>show T.fq d x p .e (λl'=>k (.n l' d .e))=_;rw [ih];rfl
  | n l v r=>show T.fq d x p l (λl'=>k (.n l' v r))=_;rw [ih];rfl
 | r p ih =>
  cases t with
  | e=>show T.fq d x p .e (λl'=>k (.n .e d l'))=_;rw [ih];rfl
  | n l v r=>show T.fq d x p r (λl'=>k (.n l v l'))=_;rw [ih];rfl
theorem T.rV (p:Pa):T.get d p .e=d:=by cases p <;> rfl
theorem T.zlq (l:T α) (v:α) (r:T α):T.get d .z (.n l v r)=v:=rfl
theorem T.zdk (p:Pa) (l:T α) (v:α) (r:T α):T.get d (.l p) (.n l v r)=T.get d p l:=rfl
theorem T.zdl (p:Pa) (l:T α) (v:α) (r:T α):T.get d (.r p) (.n l v r)=T.get d p r:=rfl
theorem T.get_set_same (p:Pa) (t:T α):T.get d p (T.set d x p t)=x:=by
 induction p generalizing t with
 | z=>cases t <;> rfl
 | l p ih=>cases t <;> simp [T.set,T.zdk,ih]
 | r p ih=>cases t <;> simp [T.set,T.zdl,ih]
theorem T.zk (p q:Pa) (t:T α) (h:q≠p):T.get d q (T.set d x p t)=T.get d q t:=by
 induction p generalizing q t with
 | z =>
  cases q with
  | z=>exact absurd rfl h
  | l q=>cases t <;> simp [T.set,T.zdk,T.rV]
  | r q=>cases t <;> simp [T.set,T.zdl,T.rV]
 | l p ih =>
  cases q with
  | z=>cases t <;> simp [T.set,T.zlq,T.rV]
  | l q=>cases t <;> simp [T.set,T.zdk,T.rV,ih q _ (λe=>h (by rw [e]))]
  | r q=>cases t <;> simp [T.set,T.zdl,T.rV]
 | r p ih =>
  cases q with
  | z=>cases t <;> simp [T.set,T.zlq,T.rV]
  | l q=>cases t <;> simp [T.set,T.zdk,T.rV]
  | r q=>cases t <;> simp [T.set,T.zdl,T.rV,ih q _ (λe=>h (by rw [e]))]
theorem T.zli (p q:Pa) (t:T α):T.get d q (T.set d x p t)=if q.toNat=p.toNat then x else T.get d q t:=by
 by_cases h:q.toNat=p.toNat
 .rw [if_pos h,Pa.toNat_inj h,T.get_set_same]
 .rw [if_neg h,T.zk d x p q t (λe=>h (by rw [e]))]
theorem T.zbl (i j:Nat) (t:T α):T.get d (.of j) (T.set d x (.of i) t)=if j=i then x else T.get d (.of j) t:=by
 rw [T.zli];simp
end
@[simp] theorem y4 {β:Type} (n:Nat) (k:Nat->β):dw n k=k n:=by cases n <;> rfl
@[simp] theorem uE {β:Type} (z:Int) (k:Int->β):wu z k=k z:=by
 cases z with
 | ofNat n=>show dw n (λn=>k (.ofNat n))=_;simp
 | negSucc n=>show dw n (λn=>k (.negSucc n))=_;simp
@[simp] theorem qd1 (a b:Int):iadd a b=a+b:=by cases a <;> cases b <;> rfl
theorem zkb (z:Int):zla z=IntKind.wrap .i64 z:=by
 have key:∀ n:Nat,n<=9223372036854775807->IntKind.wrap .i64 (Int.ofNat n)=Int.ofNat n:=λn h =>
  Go.IntWalk.i64_in _ (by simp only [Zeb];omega)
 have key2:∀ n:Nat,n<=9223372036854775807->IntKind.wrap .i64 (Int.negSucc n)=Int.negSucc n:=λn h =>
  Go.IntWalk.i64_in _ (by simp only [Int.negSucc_eq];omega)
 cases z with
 | ofNat n =>
  show (bif Nat.ble n 9223372036854775807 then Int.ofNat n else _)=_;by_cases h:n<=9223372036854775807
  .rw [Zak h,cond_true,key n h]
  .rw [bleF h,cond_false]
 | negSucc n =>
  show (bif Nat.ble n 9223372036854775807 then Int.negSucc n else _)=_;by_cases h:n<=9223372036854775807
  .rw [Zak h,cond_true,key2 n h]
  .rw [bleF h,cond_false]
@[simp] theorem qE (k:IntKind) (z:Int):kK k z=k.wrap z:=by
 cases k <;> first | rfl | exact zkb z
@[simp] theorem xL (a b:Int):ilt a b=decide (a<b):=by
 cases a <;> cases b <;> rw [Zfa]
 .show Nat.ble _ _=true↔_;simp [Nat.ble_eq];omega
 .show false=true↔_;simp;omega
 .show true=true↔_;simp;omega
 .show Nat.ble _ _=true↔_;simp [Nat.ble_eq];omega
@[simp] theorem xM (a b:Int):ieq a b=(a==b):=by
 cases a <;> cases b <;> rw [Zfa]
 .show Nat.beq _ _=true↔_;rw [Nat.beq_eq];simp;omega
 .show false=true↔_;simp
 .show false=true↔_;simp
 .show Nat.beq _ _=true↔_;rw [Nat.beq_eq];simp
theorem wL {a b:IntKind} (h:vB a b=true):a=b:=by cases a <;> cases b <;> first | rfl | exact absurd h (by decide)
theorem xh:∀ {a b:List UInt8},j5 a b=true↔a=b
 | [],[]=>by simp [j5]
 | [],_::_=>by simp [j5]
 | _::_,[]=>by simp [j5]
 | a::x,b::y=>by
  have e:Nat.beq a.toNat b.toNat=true↔a=b:=⟨λq=>UInt8.toNat_inj.1 (yM q),λq=>aZ (by rw [q])⟩;rw [j5];by_cases h:a=b
  .rw [e.2 h,cond_true,xh,h];simp
  .rw [Zdx.2 λq=>h (e.1 q),cond_false];simp [h]
section
variable {β:Type}
theorem vM {v:AV} {k:Bool->Out β} {n:Nat} {r:β} (h:asBool v k (.no n)=.ok r):∃ b,v=.bool b/\k b=.ok r:=by
 cases v <;> first | exact ⟨_,rfl,h⟩ | exact absurd h (by intro e;cases e)
theorem uI {v:AV} {k:IntKind->Int->Out β} {n:Nat} {r:β} (h:asInt v k (.no n)=.ok r):∃ a b,v=.int a b/\k a b=.ok r:=by
 cases v <;> first | exact ⟨_,_,rfl,h⟩ | exact absurd h (by intro e;cases e)
theorem pD {v:AV} {k:List UInt8->Out β} {n:Nat} {r:β} (h:tH v k (.no n)=.ok r):∃ b,v=.str b/\k b=.ok r:=by
 cases v <;> first | exact ⟨_,rfl,h⟩ | exact absurd h (by intro e;cases e)
theorem qO {v:AV} {k:Pa->Nat->Out β} {k2:List AV->Out β} {n:Nat} {r:β} (h:rZ v k k2 (.no n)=.ok r):(∃ a b,v=.ptr a b/\k a b=.ok r)\/(∃ l,v=.fp l/\k2 l=.ok r):=by
 cases v <;> first | exact .inl ⟨_,_,rfl,h⟩ | exact .inr ⟨_,rfl,h⟩ | exact absurd h (by intro e;cases e)
theorem zqx {v:AV} {k:List AV->Out β} {n:Nat} {r:β} (h:asAgg v k (.no n)=.ok r):∃ b,v=.agg b/\k b=.ok r:=by
 cases v <;> first | exact ⟨_,rfl,h⟩ | exact absurd h (by intro e;cases e)
theorem zqy {v:AV} {k:List AV->Out β} {n:Nat} {r:β} (h:zgu v k (.no n)=.ok r):∃ b,v=.tup b/\k b=.ok r:=by
 cases v <;> first | exact ⟨_,rfl,h⟩ | exact absurd h (by intro e;cases e)
theorem cB {v:AV} {k:Pa->Out β} {k2:Out β} {n:Nat} {r:β} (h:aJ v k k2 (.no n)=.ok r):(∃ b,v=.map b/\k b=.ok r)\/(v=.sM/\k2=.ok r):=by
 cases v <;> first | exact .inl ⟨_,rfl,h⟩ | exact .inr ⟨rfl,h⟩ | exact absurd h (by intro e;cases e)
theorem zul {v:AV} {k:Nat->Pa->List AV->Out β} {k2:Pa->Out β} {n:Nat} {r:β} (h:asFn v k k2 (.no n)=.ok r) :
  (∃ f p c,v=.fn f p c/\k f p c=.ok r)\/(∃ id,v=.yld id/\k2 id=.ok r):=by
 cases v <;> first | exact .inl ⟨_,_,_,rfl,h⟩ | exact .inr ⟨_,rfl,h⟩ | exact absurd h (by intro e;cases e)
theorem zp7 {v:AV} {k k3:Nat->Pa->List AV->Out β} {k2:Pa->Out β} {n:Nat} {r:β} (h:asFn v k k2 (asBm v k3 (.no n))=.ok r) :
  (∃ f p c,v=.fn f p c/\k f p c=.ok r)\/(∃ id,v=.yld id/\k2 id=.ok r)\/(∃ f p c,v=.bm f p c/\k3 f p c=.ok r):=by
 cases v <;> first | exact .inl ⟨_,_,_,rfl,h⟩ | exact .inr (.inl ⟨_,rfl,h⟩) | exact .inr (.inr ⟨_,_,_,rfl,h⟩) | exact absurd h (by intro e;cases e)
theorem kX {v:AV} {k:Pa->Nat->Nat->Option Nat->Nat->Out β} {k1 k2:Out β} {k3:List UInt8->Out β} {k4:Nat->Nat->List AV->Out β} {n:Nat} {r:β} (h:ai v k k1 k2 k3 k4 (.no n)=.ok r) :
  (∃ id off ln cap esz,v=.sl id off ln cap esz/\k id off ln cap esz=.ok r)\/(v=.zb/\k1=.ok r)\/(v=.esl/\k2=.ok r)\/(∃ s,v=.str s/\k3 s=.ok r)\/(∃ e n l,v=.lst e n l/\k4 e n l=.ok r):=by
 cases v <;> first | exact .inl ⟨_,_,_,_,_,rfl,h⟩ | exact .inr (.inl ⟨rfl,h⟩) | exact .inr (.inr (.inl ⟨rfl,h⟩)) | exact .inr (.inr (.inr (.inl ⟨_,rfl,h⟩))) | exact .inr (.inr (.inr (.inr ⟨_,_,_,rfl,h⟩))) | exact absurd h (by intro e;cases e)
theorem uF {b:Blk} {k:Bool->Nat->T AV->Out β} {n:Nat} {r:β} (h:qb b k (.no n)=.ok r):∃ op m t,b=.cells op m t/\k op m t=.ok r:=by
 cases b <;> first | exact ⟨_,_,_,rfl,h⟩ | exact absurd h (by intro e;cases e)
theorem wD {b:Blk} {k:Nat->List (AV×AV)->Out β} {n:Nat} {r:β} (h:ni b k (.no n)=.ok r):∃ m l,b=.map m l/\k m l=.ok r:=by
 cases b <;> first | exact ⟨_,_,rfl,h⟩ | exact absurd h (by intro e;cases e)
theorem p9 {b:Blk} {k:LSt->Jump->T AV->List Pa->IR->IR->Out β} {n:Nat} {r:β} (h:zao b k (.no n)=.ok r) :
  ∃ st j tm ps x y,b=.loop st j tm ps x y/\k st j tm ps x y=.ok r:=by
 cases b <;> first | exact ⟨_,_,_,_,_,_,rfl,h⟩ | exact absurd h (by intro e;cases e)
theorem zc8 {b:Blk} {k:Pa->Nat->List Nat->Nat->Out β} {n:Nat} {r:β} (h:aK b k (.no n)=.ok r):∃ m k' s c,b=.iter m k' s c/\k m k' s c=.ok r:=by
 cases b <;> first | exact ⟨_,_,_,_,rfl,h⟩ | exact absurd h (by intro e;cases e)
theorem jD {c:Bool} {x:Out β} {n:Nat} {r:β} (h:(bif c then x else .no n)=.ok r):c=true/\x=.ok r:=by
 cases c with
 | true=>exact ⟨rfl,h⟩
 | false=>exact absurd h (by intro e;cases e)
end
@[simp] theorem ev_t (p:Pa) (tm:Tm):Arg.ev (.t p) tm=T.get .u p tm.v:=by cases tm;rfl
@[simp] theorem ev_c (v:AV) (tm:Tm):Arg.ev (.c v) tm=v:=rfl
theorem zqz:∀ (k:Nat) (l:List AV),nth k l=l.getD k .u
 | 0,[]=>rfl
 | 0,_::_=>rfl
 | k+1,[]=>by show nthS k (nth k) []=_;simp [nthS]
 | k+1,v::l=>by show nth k l=_;rw [zqz k l];simp
@[simp] theorem ev_s (k:Nat) (tm:Tm):Arg.ev (.s k) tm=tm.s.getD k .u:=by cases tm;exact zqz k _
theorem zc9 {β:Type} (v:AV) (tm:Tm) (k:Tm->Out β):sV .none v tm k=k tm:=rfl
theorem pQ {β:Type} (v:AV) (tm:Tm) (k:Tm->Out β):sV .push v tm k=k ⟨tm.v,v::tm.s⟩:=by cases tm;rfl
theorem zg2 {β:Type} (p:Pa) (v:AV) (tm:Tm) (k:Tm->Out β):sV (.loc p) v tm k=k ⟨T.set .u v p tm.v,tm.s⟩:=by
 cases tm;show T.fq _ _ _ _ _=_;rw [T.jo]
theorem wY (t:T AV) (off n:Nat):yR t off (n+1)=T.get .u (.of off) t::yR t (off+1) n:=rfl
@[simp] theorem gO (t:T AV) (off n:Nat):(yR t off n).length=n:=by
 induction n generalizing off with
 | zero=>rfl
 | succ n ih=>simp [wY,ih]
theorem yF (t:T AV) (off n i:Nat) (h:i<n):(yR t off n)[i]? = some (T.get .u (.of (off+i)) t):=by
 induction n generalizing off i with
 | zero=>omega
 | succ n ih =>
  cases i with
  | zero=>simp [wY]
  | succ i=>rw [wY,Zhg,ih _ _ (by omega)];congr 3;omega
noncomputable def jN:List AV->T AV->Nat->T AV
 | [],t,_=>t
 | v::l,t,off=>jN l (T.set .u v (.of off) t) (off+1)
theorem jQ {β:Type} (l:List AV) (t:T AV) (off:Nat) (k:T AV->β):uW l t off k=k (jN l t off):=by
 induction l generalizing t off with
 | nil=>rfl
 | cons v l ih =>
  show T.fq .u v (.of off) t (λt'=>uW l t' (off+1) k)=_;rw [T.jo,ih];rfl
theorem uB (l:List AV) (t:T AV) (off j:Nat) :
  T.get .u (.of j) (jN l t off)=if off<=j/\j<off+l.length then l.getD (j-off) .u else T.get .u (.of j) t:=by
 induction l generalizing t off with
 | nil=>rw [if_neg (by simp;try omega)];rfl
 | cons v l ih =>
  rw [jN,ih,T.zbl];by_cases h1:off+1<=j/\j<off+1+l.length
  .rw [if_pos h1,if_pos (by simp;omega)];obtain ⟨i,rfl⟩:∃ i,j=off+1+i:=⟨j-(off+1),by omega⟩;rw [show off+1+i-(off+1)=i by omega,show off+1+i-off=i+1 by omega];simp
  .rw [if_neg h1];by_cases h2:j=off
   .subst h2;simp
   .rw [if_neg h2,if_neg (by simp;omega)]
theorem zkc {β:Type} (l:List AV) (k:Nat->T AV->β):zex l k=k l.length (jN l .e 0):=by
 unfold zex;rw [jQ]
theorem yW {β:Type} (op:Bool) (l:List AV) (h:T Blk) (nx:Pa) (K:Pa->T Blk->Pa->Out β) :
  jA op l h nx K=K nx (T.set .no (.cells op l.length (jN l .e 0)) nx h) nx.succ:=by
 have e:jA op l h nx K=newB op l h nx K:=by cases h <;> rfl
 rw [e];unfold newB;rw [zkc];simp [T.jo]
end Go.Ev
namespace Go.Ev
open Go
def o8 (b i:Nat):Option Value:=((layG b)[i]?).map λn=>.int .u64 (.ofNat n)
structure Env where
 nm:Pa->Option (Nat×Nat)
 fz:Nat->Nat->Option Value
 lay:∀ b i v,o8 b i=some v->fz b i=some v
instance:CoeFun Env (λ_=>Pa->Option (Nat×Nat)):=⟨Env.nm⟩
def zgz (n off ln esz c:Nat):Option Nat->Prop
 | some k=>c=k
 | none=>ln<=c/\off+c*esz=n
mutual
def VR (E:Env):AV->Value->Prop
 | .bool b,v=>v=.bool b
 | .int k n,v=>v=.int k n
 | .str s,v=>v=.string ⟨s.toArray⟩
 | .tK,v=>v=.pointer none
 | .ptr id off,v=>∃ b n,E id=some (b,n)/\v=.pointer (some ⟨b,off,none⟩)
 | .zb,v=>v=.slice none 0 0
 | .sl id off ln cap esz,v=>∃ b n c,E id=some (b,n)/\v=.slice (some ⟨b,off,none⟩) ln c/\zgz n off ln esz c cap
 | .esl,v=>∃ a c,v=.slice (some a) 0 c
 | .sM,v=>v=.map none
 | .map id,v=>∃ b n,E id=some (b,n)/\v=.map (some b)
 | .sK,v=>v=.nilFunc
 | .fn f p cap,v=>p=.of f/\∃ vs,v=.func (.func f) #[] vs/\VRL E cap vs.toList
 | .bm f p first,v=>p=.of f/\∃ vs,v=.func (.func f) vs #[]/\VRL E first vs.toList
 | .yld id,v=>∃ b n,E id=some (b,n)/\v=.func (.yield b) #[] #[]
 | .agg l,v=>l.all gy=true/\∃ vs,v=.agg vs/\VRL E l vs.toList
 | .tup l,v=>∃ vs,v=.tuple vs/\VRL E l vs.toList
 | .lst esz ln l,v=>l.all gy=true/\l.length=ln*esz/\∃ p c,v=.slice p ln c/\((ln=0/\(p=none->c=0))\/∃ b off,p=some ⟨b,off,none⟩/\ln<=c/\VRF E l b off)
 | .fp l,v=>l.all gy=true/\∃ b off,v=.pointer (some ⟨b,off,none⟩)/\VRF E l b off
def VRL (E:Env):List AV->List Value->Prop
 | [],vs=>vs=[]
 | a::l,vs=>∃ v m,vs=v::m/\VR E a v/\VRL E l m
def VRF (E:Env):List AV->Nat->Nat->Prop
 | [],_,_=>True
 | a::l,b,off=>∃ v,E.fz b off=some v/\VR E a v/\VRF E l b (off+1)
end
structure Env.le (E E':Env):Prop where
 nm:∀ id x,E id=some x->E' id=some x
 fz:∀ b i v,E.fz b i=some v->E'.fz b i=some v
theorem Env.le.refl (E:Env):E.le E:=⟨λ_ _ h=>h,λ_ _ _ h=>h⟩
theorem Env.le.trans {E E' E'':Env} (h:E.le E') (h':E'.le E''):E.le E'':=⟨λid x q=>h'.nm id x (h.nm id x q),λb i v q=>h'.fz b i v (h.fz b i v q)⟩
mutual
theorem VR.mono {E E':Env} (hE:E.le E'):∀ (a:AV) {v:Value},VR E a v->VR E' a v
 | .bool _,_,h=>by simpa only [VR] using h
 | .int _ _,_,h=>by simpa only [VR] using h
 | .str _,_,h=>by simpa only [VR] using h
 | .tK,_,h=>by simpa only [VR] using h
 | .ptr _ _,_,h=>by simp only [VR] at h ⊢;obtain ⟨b,n,q,r⟩:=h;exact ⟨b,n,hE.nm _ _ q,r⟩
 | .zb,_,h=>by simpa only [VR] using h
 | .sl _ _ _ _ _,_,h=>by simp only [VR] at h ⊢;obtain ⟨b,n,c,q,r⟩:=h;exact ⟨b,n,c,hE.nm _ _ q,r⟩
 | .esl,_,h=>by simpa only [VR] using h
 | .sM,_,h=>by simpa only [VR] using h
 | .map _,_,h=>by simp only [VR] at h ⊢;obtain ⟨b,n,q,r⟩:=h;exact ⟨b,n,hE.nm _ _ q,r⟩
 | .sK,_,h=>by simpa only [VR] using h
 | .fn _ _ c,_,h=>by simp only [VR] at h ⊢;obtain ⟨q,vs,r,s⟩:=h;exact ⟨q,vs,r,VRL.mono hE c s⟩
 | .bm _ _ c,_,h=>by simp only [VR] at h ⊢;obtain ⟨q,vs,r,s⟩:=h;exact ⟨q,vs,r,VRL.mono hE c s⟩
 | .yld _,_,h=>by simp only [VR] at h ⊢;obtain ⟨b,n,q,r⟩:=h;exact ⟨b,n,hE.nm _ _ q,r⟩
 | .agg l,_,h=>by simp only [VR] at h ⊢;obtain ⟨q,vs,r,s⟩:=h;exact ⟨q,vs,r,VRL.mono hE l s⟩
 | .tup l,_,h=>by simp only [VR] at h ⊢;obtain ⟨vs,r,s⟩:=h;exact ⟨vs,r,VRL.mono hE l s⟩
 | .lst _ _ l,_,h=>by
  simp only [VR] at h ⊢;obtain ⟨h1,h2,p,c,h3,h4⟩:=h;refine ⟨h1,h2,p,c,h3,h4.imp_right ?_⟩;rintro ⟨b,off,h5,h6,h7⟩;exact ⟨b,off,h5,h6,VRF.mono hE l h7⟩
 | .fp l,_,h=>by
  simp only [VR] at h ⊢;obtain ⟨h1,b,off,h2,h3⟩:=h;exact ⟨h1,b,off,h2,VRF.mono hE l h3⟩
theorem VRL.mono {E E':Env} (hE:E.le E'):∀ (l:List AV) {vs:List Value},VRL E l vs->VRL E' l vs
 | [],_,h=>by simpa only [VRL] using h
 | a::l,_,h=>by simp only [VRL] at h ⊢;obtain ⟨v,m,q,r,s⟩:=h;exact ⟨v,m,q,VR.mono hE a r,VRL.mono hE l s⟩
theorem VRF.mono {E E':Env} (hE:E.le E'):∀ (l:List AV) {b off:Nat},VRF E l b off->VRF E' l b off
 | [],_,_,_=>by simp only [VRF]
 | a::l,_,_,h=>by simp only [VRF] at h ⊢;obtain ⟨v,q,r,s⟩:=h;exact ⟨v,hE.fz _ _ _ q,VR.mono hE a r,VRF.mono hE l s⟩
end
theorem VRF.get {E:Env}:∀ {l:List AV} {b off:Nat},VRF E l b off->∀ {i:Nat} {a:AV},l[i]? = some a->∃ v,E.fz b (off+i)=some v/\VR E a v
 | [],_,_,_,_,_,hi=>by simp at hi
 | x::l,b,off,h,i,a,hi=>by
  simp only [VRF] at h;obtain ⟨v,q,r,s⟩:=h;cases i with
  | zero=>simp at hi;subst hi;exact ⟨v,q,r⟩
  | succ i=>simp at hi;have:=VRF.get s hi;rwa [show off+1+i=off+(i+1) by omega] at this
theorem VRF.sO {E:Env}:∀ {l:List AV} {b off:Nat},(∀ (i:Nat) (a:AV),l[i]? = some a->∃ v,E.fz b (off+i)=some v/\VR E a v)->VRF E l b off
 | [],_,_,_=>by simp only [VRF]
 | a::l,b,off,h=>by
  simp only [VRF];obtain ⟨v,q,r⟩:=h 0 a (by simp);exact ⟨v,q,r,VRF.sO λi x hx=>by have:=h (i+1) x (by simpa using hx);rwa [show off+(i+1)=off+1+i by omega] at this⟩
theorem VRF.drop {E:Env} {l:List AV} {b off:Nat} (h:VRF E l b off) (n:Nat):VRF E (l.drop n) b (off+n) :=
 VRF.sO λi a hi=>by rw [Zhe] at hi;rw [Zcu];exact h.get hi
theorem VRF.take {E:Env} {l:List AV} {b off:Nat} (h:VRF E l b off) (n:Nat):VRF E (l.take n) b off :=
 VRF.sO λi a hi=>by
  rw [Zhl] at hi;by_cases hn:i<n
  .rw [if_pos hn] at hi;exact h.get hi
  .rw [if_neg hn] at hi;cases hi
theorem VRL.cons {E:Env} {a:AV} {l:List AV} {v:Value} {m:List Value} (h:VR E a v) (h':VRL E l m):VRL E (a::l) (v::m):=by
 simp only [VRL];exact ⟨v,m,rfl,h,h'⟩
theorem VRL.nil {E:Env}:VRL E [] []:=by simp only [VRL]
theorem VRL.length {E:Env}:∀ {l:List AV} {vs:List Value},VRL E l vs->vs.length=l.length
 | [],_,h=>by simp only [VRL] at h;subst h;rfl
 | _::_,_,h=>by simp only [VRL] at h;obtain ⟨v,m,rfl,_,s⟩:=h;simp [VRL.length s]
theorem VRL.get {E:Env}:∀ {l:List AV} {vs:List Value},VRL E l vs->∀ {i:Nat} {a:AV},l[i]? = some a->∃ v,vs[i]? = some v/\VR E a v
 | [],_,_,_,_,hi=>by simp at hi
 | b::l,_,h,i,a,hi=>by
  simp only [VRL] at h;obtain ⟨v,m,rfl,r,s⟩:=h;cases i with
  | zero=>simp at hi;subst hi;exact ⟨v,by simp,r⟩
  | succ i=>simp at hi ⊢;exact VRL.get s hi
theorem VRL.sO {E:Env}:∀ {l:List AV} {vs:List Value},vs.length=l.length->(∀ (i:Nat) (a:AV),l[i]? = some a->∃ v,vs[i]? = some v/\VR E a v)->VRL E l vs
 | [],vs,hl,_=>by simp only [VRL];simpa using hl
 | a::l,[],hl,_=>by simp at hl
 | a::l,v::m,hl,h=>by
  obtain ⟨u,hu,r⟩:=h 0 a (by simp);simp at hu;subst hu;exact VRL.cons r (VRL.sO (by simpa using hl) λi b hb=>by simpa using h (i+1) b (by simpa using hb))
theorem VRL.append {E:Env}:∀ {l:List AV} {vs:List Value} {l':List AV} {vs':List Value},VRL E l vs->VRL E l' vs'->VRL E (l++l') (vs++vs')
 | [],_,_,_,h,h'=>by simp only [VRL] at h;subst h;simpa using h'
 | _::_,_,_,_,h,h'=>by simp only [VRL] at h;obtain ⟨v,m,rfl,r,s⟩:=h;exact VRL.cons r (VRL.append s h')
theorem VRL.take {E:Env} {l:List AV} {vs:List Value} (h:VRL E l vs) (n:Nat):VRL E (l.take n) (vs.take n):=by
 refine VRL.sO (by simp [h.length]) λi a hi => ?_;rw [Zhl] at hi ⊢;by_cases hn:i<n
 .rw [if_pos hn] at hi ⊢;exact h.get hi
 .rw [if_neg hn] at hi;cases hi
theorem VRL.drop {E:Env} {l:List AV} {vs:List Value} (h:VRL E l vs) (n:Nat):VRL E (l.drop n) (vs.drop n):=by
 refine VRL.sO (by simp [h.length]) λi a hi => ?_;rw [Zhe] at hi ⊢;exact h.get hi
theorem VR.oneCell {E:Env} {a:AV} {v:Value} (h:VR E a v) (hs:gy a=true):v.oneCell'=true:=by
 cases a <;> simp only [VR,gy] at h hs <;> first
  |(cases hs;done)
  |(subst h;rfl)
  |(obtain ⟨_,_,_,_,rfl,_⟩:=h;rfl)
  |(obtain ⟨_,_,_,rfl⟩:=h;rfl)
  |(obtain ⟨_,_,rfl⟩:=h;rfl)
  |(obtain ⟨_,_,rfl,_⟩:=h;rfl)
  |(obtain ⟨_,_,_,_,rfl,_⟩:=h;rfl)
  |(obtain ⟨_,_,_,rfl,_⟩:=h;rfl)
theorem zkd {a:AV} {l:List AV} (h:a.cells=some l):(∃ m,a=.agg m/\l=m)\/(gy a=true/\l=[a]):=by
 cases a <;> first
  | exact .inl ⟨_,rfl,(Option.some.inj h).symm⟩
  | exact .inr ⟨rfl,(Option.some.inj h).symm⟩
  | exact absurd h (by intro e;cases e)
theorem VR.cells {E:Env} {a:AV} {v:Value} {l:List AV} (h:VR E a v) (hc:a.cells=some l):VRL E l v.cells.toList/\l.all gy=true:=by
 rcases zkd hc with ⟨m,rfl,rfl⟩ | ⟨hs,rfl⟩
 .simp only [VR] at h;obtain ⟨q,vs,rfl,s⟩:=h;exact ⟨s,q⟩
 .have h1:=h.oneCell hs;have e:v.cells = #[v]:=by cases v <;> first | rfl | exact absurd h1 (by simp [Value.oneCell'])
  rw [e];exact ⟨VRL.cons h VRL.nil,by simp [hs]⟩
def vE (fr:Nat×Nat) (n:Nat):Prop:=∀ i,i<n->¬(fr.1<=i/\i<fr.2)
def stOk:LSt->LoopState->Prop
 | .ready,s=>s=.ready
 | .busy,s=>s=.busy
 | .done,s=>s=.done
def jOk:Jump->Option Code->Prop
 | .none,c=>c=none
 | .ret,c=>c=some .ret
 | .exit id,c=>c=some (.exit id)
def TR (E:Env) (loc:List Nat) (tm:T AV) (tmps:Array Value):Prop :=
 (∀ t p,t≠dmy->tu loc t=some p->VR E (T.get .u p tm) (tmps.getD t undef))
section
variable (P:Program)
def BR (E:Env) (n:Nat):Blk->Obj->Prop
 | .no,_=>True
 | .cells op m t,o=>∃ c ty fr,o=.cells c ty fr/\vE fr c.size/\c.size=n/\m<=n/\(op=false->m=n) /\
   ∀ i,i<m->gy (T.get .u (.of i) t)=true/\∃ v,c[i]? = some v/\VR E (T.get .u (.of i) t) v
 | .map k l,o=>∃ es,o=.map es k/\l.length=k/\es.size=k /\
   ∀ (i:Nat) (a b:AV),l[i]? = some (a,b)->∃ e,es[i]? = some e/\e.born=i/\VR E a e.key/\VR E b e.val
 | .loop st j tm ps x y,o=>∃ (L:Loop) (loc:List Nat) (N:Nat),o=.loop L/\stOk st L.state/\jOk j L.pending/\TR E loc tm L.tmps/\N=L.tmps.size/\(∀ t∈loc,t<N) /\
   L.params.toList.mapM (tu loc)=some ps/\irA P loc N L.assign=x/\irA P loc N L.body=y
 | .iter m k seen c,o=>∃ bm nm,E m=some (bm,nm)/\o=.mapIter (some bm) k seen.reverse.toArray c/\k<=c
structure HR (B:Nat) (E:Env) (h:T Blk) (nx:Pa) (w:World):Prop where
 blk:∀ id,T.get .no id h≠.no->∃ b n o,E id=some (b,n)/\w.heap[b]? = some o/\BR P E n (T.get .no id h) o
 inj:∀ id id' b n n',T.get .no id h≠.no->T.get .no id' h≠.no->E id=some (b,n)->E id'=some (b,n')->id=id'
 fresh:∀ id,nx.toNat<=id.toNat->E id=none
 lt:∀ id b n,E id=some (b,n)->B<=b/\b<w.heap.size
 base:B<=w.heap.size
 frz:∀ b i v,E.fz b i=some v->(∃ c ty fr,w.heap[b]? = some (.cells c ty fr)/\c[i]? = some v)/\∀ id n,E id=some (b,n)->T.get .no id h=.no
structure r9 (L' L:Loop):Prop where
 defers:L'.defers=L.defers
 tmps:L'.tmps=L.tmps
 params:L'.params=L.params
 assign:L'.assign=L.assign
 body:L'.body=L.body
theorem r9.refl (L:Loop):r9 L L:=⟨rfl,rfl,rfl,rfl,rfl⟩
theorem r9.trans {L L' L'':Loop} (h:r9 L'' L') (k:r9 L' L):r9 L'' L :=
 ⟨h.defers.trans k.defers,h.tmps.trans k.tmps,h.params.trans k.params,h.assign.trans k.assign,h.body.trans k.body⟩
structure Ex (E E':Env) (w w':World):Prop where
 le:E.le E'
 os:w'.os=w.os
 tape:w'.tape=w.tape
 output:w'.output=w.output
 size:w.heap.size<=w'.heap.size
 keep:∀ b,b<w.heap.size->(∀ id n,E id≠some (b,n))->w'.heap[b]? = w.heap[b]?
 new:∀ id b n,E' id=some (b,n)->w.heap.size<=b\/∃ id' n',E id'=some (b,n')
 fzn:∀ b i v,E'.fz b i=some v->w.heap.size<=b\/(∃ v',E.fz b i=some v')\/∃ id n,E id=some (b,n)
 loop:∀ (b:Nat) (L:Loop),w.heap[b]? = some (.loop L)->∃ L':Loop,w'.heap[b]? = some (.loop L')/\r9 L' L
end
theorem Ex.refl (E:Env) (w:World):Ex E E w w :=
 ⟨.refl _,rfl,rfl,rfl,Zaf _,λ_ _ _=>rfl,λid b n h=>.inr ⟨id,n,h⟩,λ_ _ v h=>.inr (.inl ⟨v,h⟩),λ_ L h=>⟨L,h,.refl _⟩⟩
theorem Ex.trans {E E' E'':Env} {w w' w'':World} (h:Ex E E' w w') (k:Ex E' E'' w' w''):Ex E E'' w w'':={
 le:=h.le.trans k.le
 os:=k.os.trans h.os
 tape:=k.tape.trans h.tape
 output:=k.output.trans h.output
 size:=Zbe h.size k.size
 keep b hb hn:=by
  rw [k.keep b (Zdc hb h.size) λid n hid => ?_,h.keep b hb hn];rcases h.new id b n hid with hlt | ⟨id',n',h'⟩
  .omega
  .exact hn id' n' h'
 new id b n hid:=by
  rcases k.new id b n hid with hlt | ⟨id',n',h'⟩
  .exact .inl (Zbe h.size hlt)
  .exact h.new id' b n' h'
 fzn b i v hf:=by
  rcases k.fzn b i v hf with hlt | ⟨v',h'⟩ | ⟨id',n',h'⟩
  .exact .inl (Zbe h.size hlt)
  .exact h.fzn b i v' h'
  .rcases h.new id' b n' h' with hlt | h''
   .exact .inl hlt
   .exact .inr (.inr h'')
 loop b L hb:=by
  obtain ⟨L',h1,h2⟩:=h.loop b L hb;obtain ⟨L'',h3,h4⟩:=k.loop b L' h1;exact ⟨L'',h3,h4.trans h2⟩ }
theorem TR.mono {E E':Env} (hE:E.le E') {loc:List Nat} {tm:T AV} {tmps:Array Value} (h:TR E loc tm tmps):TR E' loc tm tmps :=
 λt p ht hp=>VR.mono hE _ (h t p ht hp)
theorem BR.mono {P:Program} {E E':Env} (hE:E.le E') {n:Nat} {b:Blk} {o:Obj} (h:BR P E n b o):BR P E' n b o:=by
 cases b with
 | no=>simp [BR]
 | cells op m t =>
  obtain ⟨c,ty,fr,h1,h2,h3,h4,h5,h6⟩:=h;exact ⟨c,ty,fr,h1,h2,h3,h4,h5,λi hi=>let ⟨a,v,q,r⟩:=h6 i hi;⟨a,v,q,VR.mono hE _ r⟩⟩
 | map k l =>
  obtain ⟨es,h1,h2,h3,h4⟩:=h;exact ⟨es,h1,h2,h3,λi a b hi=>let ⟨e,q,r,s,t⟩:=h4 i a b hi;⟨e,q,r,VR.mono hE _ s,VR.mono hE _ t⟩⟩
 | loop st j tm ps x y =>
  obtain ⟨L,loc,N,h1,h2,h3,h4,h5⟩:=h;exact ⟨L,loc,N,h1,h2,h3,h4.mono hE,h5⟩
 | iter m k seen c =>
  obtain ⟨bm,nm,h1,h2⟩:=h;exact ⟨bm,nm,hE.nm _ _ h1,h2⟩
end Go.Ev
namespace Go.Ev
open Go
structure FR (E:Env) (loc st:List Nat) (tm:Tm) (a:Act):Prop where
 tr:TR E loc tm.v a.tmps
 sr:∀ (k t:Nat),t≠dmy->st[k]? = some t->VR E (tm.s.getD k .u) (a.tmps.getD t undef)
theorem cI {E:Env} {d:Nat} (ih:∀ {v:Value} {x:AV},eY d v=some x->VR E x v):∀ {l:List Value} {xs:List AV},l.mapM (eY d)=some xs->VRL E xs l
 | [],xs,h=>by simp at h;subst h;exact VRL.nil
 | v::l,xs,h=>by
  rw [Zcb] at h;cases hv:eY d v with
  | none=>simp [hv] at h
  | some y =>
   cases hl:l.mapM (eY d) with
   | none=>simp [hv,hl] at h
   | some ys =>
    simp [hv,hl] at h;subst h;exact VRL.cons (ih hv) (cI ih hl)
theorem mZ {E:Env}:∀ (d:Nat) {v:Value} {x:AV},eY d v=some x->VR E x v
 | 0,_,_,h=>by simp [eY] at h
 | d+1,v,x,h=>by
  unfold eY at h;split at h
  .simp at h;subst h;simp [VR]
  .simp at h;subst h;simp [VR]
  .simp at h;subst h;simp [VR]
  .simp at h;subst h;simp [VR]
  .simp at h;subst h;simp [VR]
  .simp at h;subst h;simp [VR]
  .simp at h;subst h;simp [VR]
  .rename_i cs;cases hl:cs.toList.mapM (eY d) with
   | none=>simp [hl] at h
   | some l =>
    simp only [hl] at h;cases hs:l.all gy with
    | false=>simp [hs] at h
    | true =>
     simp [hs] at h;subst h;simp only [VR];exact ⟨hs,cs,rfl,cI (mZ d) hl⟩
  .rename_i cs;cases hl:cs.toList.mapM (eY d) with
   | none=>simp [hl] at h
   | some l =>
    simp [hl] at h;subst h;simp only [VR];exact ⟨cs,rfl,cI (mZ d) hl⟩
  .cases h
theorem fO {t:Nat} {l:List Nat} {k:Nat} (h:l.findIdx? (Nat.beq t)=some k):l[k]? = some t:=by
 rw [Zhs] at h;obtain ⟨hk,h1,_⟩:=h;rw [Zgu hk,<- yM h1]
theorem za7 {loc:List Nat} {t:Nat} {p:Pa} (h:tu loc t=some p):∃ k,loc[k]? = some t/\p=.of k:=by
 unfold tu at h;cases hf:loc.findIdx? (Nat.beq t) with
 | none=>simp [hf] at h
 | some k=>simp [hf] at h;exact ⟨k,fO hf,h.symm⟩
theorem dW {loc:List Nat} {t u:Nat} {p:Pa} (h:tu loc t=some p) (h':tu loc u=some p):t=u:=by
 obtain ⟨k,hk,rfl⟩:=za7 h;obtain ⟨k',hk',e⟩:=za7 h';rw [Pa.zqq e] at hk;exact Option.some.inj (hk.symm.trans hk')
section
variable {P:Program} {E:Env} {loc st:List Nat} {tm:Tm} {a:Act}
theorem zP (F:FR E loc st tm a) {x:Operand} {y:Arg} (h:zx loc st x=some y):VR E (y.ev tm) (a.eval x):=by
 cases x with
 | tmp t =>
  simp only [zx] at h;by_cases hd:t=dmy
  .rw [aZ hd] at h;cases h
  rw [aL hd] at h;simp only [cond_false] at h;cases hl:tu loc t with
  | some p=>simp [hl] at h;subst h;rw [ev_t];exact F.tr t p hd hl
  | none =>
   simp only [hl] at h;cases hf:st.findIdx? (Nat.beq t) with
   | none=>simp [hf] at h
   | some k=>simp [hf] at h;subst h;rw [ev_s];exact F.sr k t hd (fO hf)
 | const v =>
  simp only [zx] at h;cases hv:eY 8 v with
  | none=>simp [hv] at h
  | some z=>simp [hv] at h;subst h;exact mZ 8 hv
 | func f=>simp [zx] at h;subst h;rw [ev_c];simp only [VR];exact ⟨trivial,#[],rfl,VRL.nil⟩
 | global g =>
  simp only [zx] at h;split at h
  .cases h
  .cases h
   rw [ev_c];simp only [VR];refine ⟨?_,g,0,rfl,VRF.sO λi z hi => ?_⟩
   .rw [Zaw];intro v hv;obtain ⟨n,_,rfl⟩:=Zao.1 hv;rfl
   .rw [layL,Zgw] at hi;cases hq:(layG g)[i]? with
    | none=>rw [hq] at hi;cases hi
    | some n =>
     rw [hq] at hi;have hi:=Option.some.inj hi;subst hi;exact ⟨_,E.lay g _ _ (by rw [Zbd,o8,hq];rfl),by simp only [VR]⟩
theorem mU (F:FR E loc st tm a):∀ {l:List Operand} {ys:List Arg},l.mapM (zx loc st)=some ys->VRL E (ys.map (Arg.ev · tm)) (l.map a.eval)
 | [],ys,h=>by simp at h;subst h;exact VRL.nil
 | x::l,ys,h=>by
  rw [Zcb] at h;cases hv:zx loc st x with
  | none=>simp [hv] at h
  | some y =>
   cases hl:l.mapM (zx loc st) with
   | none=>simp [hv,hl] at h
   | some zs =>
    simp [hv,hl] at h;subst h;exact VRL.cons (zP F hv) (mU F hl)
theorem pE (F:FR E loc st tm a) {l:Array Operand} {ys:List Arg} (h:xF loc st l=some ys):VRL E (ys.map (Arg.ev · tm)) (l.map a.eval).toList:=by
 have:=mU F h;simpa using this
variable {B:Nat} {h:T Blk} {nx:Pa} {w:World}
theorem HR.cells (H:HR P B E h nx w) {id:Pa} {op:Bool} {m:Nat} {t:T AV} (hb:T.get .no id h=.cells op m t) :
  ∃ b n c ty fr,E id=some (b,n)/\w.heap[b]? = some (.cells c ty fr)/\vE fr c.size/\c.size=n/\m<=n/\(op=false->m=n) /\
   ∀ i,i<m->gy (T.get .u (.of i) t)=true/\∃ v,c[i]? = some v/\VR E (T.get .u (.of i) t) v:=by
 obtain ⟨b,n,o,h1,h2,h3⟩:=H.blk id (by rw [hb];intro e;cases e);rw [hb] at h3;obtain ⟨c,ty,fr,rfl,h4⟩:=h3;exact ⟨b,n,c,ty,fr,h1,h2,h4⟩
theorem VR.xw {k:IntKind} {n:Int} {v:Value} (h:VR E (.int k n) v):v=.int k n:=by simpa only [VR] using h
theorem VR.ah {b:Bool} {v:Value} (h:VR E (.bool b) v):v=.bool b:=by simpa only [VR] using h
theorem VR.og {s:List UInt8} {v:Value} (h:VR E (.str s) v):v=.string ⟨s.toArray⟩:=by simpa only [VR] using h
theorem VR.tX {id:Pa} {off:Nat} {v:Value} (h:VR E (.ptr id off) v):∃ b n,E id=some (b,n)/\v=.pointer (some ⟨b,off,none⟩):=by simpa only [VR] using h
theorem VR.si {id:Pa} {off ln esz:Nat} {cap:Option Nat} {v:Value} (h:VR E (.sl id off ln cap esz) v) :
  ∃ b n c,E id=some (b,n)/\v=.slice (some ⟨b,off,none⟩) ln c/\zgz n off ln esz c cap:=by simpa only [VR] using h
theorem VR.ak {l:List AV} {v:Value} (h:VR E (.agg l) v):l.all gy=true/\∃ vs,v=.agg vs/\VRL E l vs.toList:=by simpa only [VR] using h
theorem VR.zff {l:List AV} {v:Value} (h:VR E (.tup l) v):∃ vs,v=.tuple vs/\VRL E l vs.toList:=by simpa only [VR] using h
theorem VR.zab {id:Pa} {v:Value} (h:VR E (.map id) v):∃ b n,E id=some (b,n)/\v=.map (some b):=by simpa only [VR] using h
theorem VR.aP {e n:Nat} {l:List AV} {v:Value} (h:VR E (.lst e n l) v):l.all gy=true/\l.length=n*e/\∃ p c,v=.slice p n c/\(n=0\/∃ b off,p=some ⟨b,off,none⟩/\n<=c/\VRF E l b off):=by
 simp only [VR] at h;obtain ⟨h1,h2,p,c,h3,h4⟩:=h;exact ⟨h1,h2,p,c,h3,h4.imp_left And.left⟩
theorem VR.zfm {l:List AV} {v:Value} (h:VR E (.fp l) v):l.all gy=true/\∃ b off,v=.pointer (some ⟨b,off,none⟩)/\VRF E l b off:=by simpa only [VR] using h
theorem jU (b off j:Nat):(⟨b,off,none⟩:Addr).add j=⟨b,off+j,none⟩:=by unfold Addr.add;split <;> simp_all
theorem HR.cell (H:HR P B E h nx w) {id:Pa} {op:Bool} {m:Nat} {t:T AV} (hb:T.get .no id h=.cells op m t) {b n i:Nat} (hE:E id=some (b,n)) (hi:i<m) :
  ∃ v,w.cell? ⟨b,i,none⟩=some v/\VR E (T.get .u (.of i) t) v/\gy (T.get .u (.of i) t)=true:=by
 obtain ⟨b',n',c,ty,fr,h1,h2,_,_,_,_,h3⟩:=H.cells hb;obtain ⟨rfl,rfl⟩:b=b'/\n=n':=by rw [hE] at h1;cases h1;exact ⟨rfl,rfl⟩
 obtain ⟨h4,v,h5,h6⟩:=h3 i hi;exact ⟨v,by simp [World.cell?,h2,h5],h6,h4⟩
theorem HR.range (H:HR P B E h nx w) {id:Pa} {op:Bool} {m:Nat} {t:T AV} (hb:T.get .no id h=.cells op m t) {b n off s:Nat} (hE:E id=some (b,n)) (hi:off+s<=m) :
  ∃ vs:List Value,vs.length=s/\(∀ j v,vs[j]? = some v->w.cell? ((⟨b,off,none⟩:Addr).add j)=some v)/\VRL E (yR t off s) vs/\(yR t off s).all gy=true:=by
 induction s generalizing off with
 | zero=>exact ⟨[],rfl,by simp,VRL.nil,rfl⟩
 | succ s ih =>
  obtain ⟨vs,h1,h2,h3,h4⟩:=ih (off:=off+1) (by omega);obtain ⟨v,h5,h6,h7⟩:=H.cell hb hE (i:=off) (by omega);refine ⟨v::vs,by simp [h1],?_,VRL.cons h6 h3,by simp [wY,h7,h4]⟩;intro j u hj;cases j with
  | zero=>simp at hj;subst hj;rw [jU];simpa using h5
  | succ j =>
   simp at hj;have:=h2 j u hj;rw [jU] at this ⊢;rw [<- this];congr 2;omega
theorem HR.zxm (H:HR P B E h nx w) {b i:Nat} {v:Value} (hf:E.fz b i=some v):w.cell? ⟨b,i,none⟩=some v:=by
 obtain ⟨⟨c,ty,fr,h1,h2⟩,_⟩:=H.frz b i v hf;simp [World.cell?,h1,h2]
theorem HR.zjo (H:HR P B E h nx w):∀ {l:List AV} {b off:Nat},VRF E l b off ->
  ∃ vs:List Value,vs.length=l.length/\(∀ j v,vs[j]? = some v->w.cell? ((⟨b,off,none⟩:Addr).add j)=some v)/\VRL E l vs
 | [],_,_,_=>⟨[],rfl,by simp,VRL.nil⟩
 | a::l,b,off,hf=>by
  simp only [VRF] at hf;obtain ⟨v,q,r,s⟩:=hf;obtain ⟨vs,h1,h2,h3⟩:=HR.zjo H s;refine ⟨v::vs,by simp [h1],?_,VRL.cons r h3⟩;intro j u hj;cases j with
  | zero=>simp at hj;subst hj;rw [jU];simpa using H.zxm q
  | succ j =>
   simp at hj;have:=h2 j u hj;rw [jU] at this ⊢;rw [<- this];congr 2;omega
theorem cC {l:List AV} (h:l.all gy=true) (n:Nat):(l.take n).all gy=true:=by
 rw [Zaw] at h ⊢;exact λx hx=>h x (List.take_subset _ _ hx)
theorem qX {l:List AV} (h:l.all gy=true) (n:Nat):(l.drop n).all gy=true:=by
 rw [Zaw] at h ⊢;exact λx hx=>h x (List.drop_subset _ _ hx)
theorem zln {l:List AV} {b off:Nat} (h1:l.all gy=true) (h2:VRF E l b off):VR E (.fp l) (.pointer (some ⟨b,off,none⟩)):=by
 simp only [VR];exact ⟨h1,b,off,rfl,h2⟩
theorem pL {t:TypeId} {d:TypeDesc} (hu:P.underlying t=some d) (w:World) :
  (isAgg t).run P w=.ok (match d with | .struct _ | .array _ _=>true | _=>false) w:=by
 unfold isAgg;cases d <;> simp [run_underlying hu]
theorem mX {t:TypeId} (hs:pG P t=some none) (w:World):(isAgg t).run P w=.ok false w:=by
 unfold pG at hs;cases hu:P.underlying t with
 | none=>simp [hu] at hs
 | some d=>rw [pL hu];cases d <;> first | rfl | (simp [hu] at hs)
theorem mW {t:TypeId} {n:Nat} (hs:pG P t=some (some n)) (w:World):(isAgg t).run P w=.ok true w/\(sizeOf t).run P w=.ok n w:=by
 unfold pG at hs;cases hu:P.underlying t with
 | none=>simp [hu] at hs
 | some d =>
  rw [pL hu]
  cases d <;> first
   |(simp [hu] at hs;done)
   |(cases hi:P.info? t with
     | none=>simp [hu,hi] at hs
     | some i=>simp [hu,hi] at hs;subst hs;exact ⟨rfl,by simp [sizeOf,typeInfo,hi]⟩)
theorem jX {t:TypeId} {n:Nat} (hs:rA P t=some n) (w:World):(sizeOf t).run P w=.ok n w:=by
 unfold rA at hs;cases hi:P.info? t with
 | none=>simp [hi] at hs
 | some i=>simp [hi] at hs;subst hs;simp [sizeOf,typeInfo,hi]
theorem kM {t:TypeId} {z:AV} (hs:gR P t=some z) (w:World):∃ v,(zeroValue t).run P w=.ok v w/\VR E z v:=by
 unfold gR at hs;cases hi:P.info? t with
 | none=>simp [hi] at hs
 | some i =>
  cases hz:i.zero with
  | none=>simp [hi,hz] at hs
  | some v=>simp [hi,hz] at hs;exact ⟨v,by simp [zeroValue,typeInfo,hi,hz],mZ 8 hs⟩
end
end Go.Ev
namespace Go.Ev
open Go
section
variable {β:Type} {P:Program} {E:Env} {loc st:List Nat} {tm:Tm} {a:Act} {B:Nat} {h:T Blk} {nx:Pa} {w:World}
def Good (P:Program) (E:Env) (w:World) (K:AV->Out β) (r:β) (s:Sem Next):Prop:=∃ av v,K av=.ok r/\VR E av v/\s.run P w=.ok (.value v) w
theorem Good.mk {K:AV->Out β} {r:β} {s:Sem Next} {av:AV} {v:Value} (h1:K av=.ok r) (h2:VR E av v) (h3:s.run P w=.ok (.value v) w):Good P E w K r s:=⟨av,v,h1,h2,h3⟩
theorem Good.val {K:AV->Out β} {r:β} {s:Sem Value} {av:AV} {v:Value} (h1:K av=.ok r) (h2:VR E av v) (h3:s.run P w=.ok v w):Good P E w K r (do pure (.value (<- s))) :=
 ⟨av,v,h1,h2,by simp [h3]⟩
variable {K:AV->Out β} {r:β}
theorem zxn (F:FR E loc st tm a) {x:Operand} {y:Arg} (hx:zx loc st x=some y) (hk:(PO.mv y).ev tm h K=.ok r):Good P E w K r (pure (.value (a.eval x))) :=
 .mk hk (zP F hx) rfl
theorem zur (F:FR E loc st tm a) {c x y:Operand} {c' x' y':Arg} (hc:zx loc st c=some c') (hx:zx loc st x=some x') (hy:zx loc st y=some y') (hk:(PO.pick c' x' y').ev tm h K=.ok r) :
  Good P E w K r (do pure (.value (if <- Go.asBool (a.eval c) then a.eval x else a.eval y))):=by
 obtain ⟨b,hb,hk⟩:=vM hk;have h1:=zP F hc;rw [hb] at h1;rw [h1.ah];refine .mk hk (v:=if b then a.eval x else a.eval y) ?_ (by simp [Go.asBool]);cases b
 .exact zP F hy
 .exact zP F hx
theorem zus {t:TypeId} {cs:Array Value} {off:Nat} {sz:Option Nat} {l:List AV} (hs:pG P t=some sz) (hl:VRL E l cs.toList) (hsc:l.all gy=true)
  (hk:(match sz with
   | some n=>K (.agg ((l.drop off).take n))
   | none=>match l[off]? with
    | some v=>K v
    | none=>.no 3)=.ok r):Good P E w K r (do pure (.value (<- part t cs off))):=by
 cases sz with
 | some n =>
  obtain ⟨h1,h2⟩:=mW hs w;refine .val hk (v:=.agg (cs.extract off (off+n))) ?_ (by simp [part,h1,h2]);simp only [VR];refine ⟨?_,_,rfl,?_⟩
  .rw [Zaw] at hsc ⊢;exact λx hx=>hsc x (List.drop_subset _ _ (List.take_subset _ _ hx))
  .have:=(hl.drop off).take n;simpa [Array.toList_extract,List.extract_eq_take_drop] using this
 | none =>
  have h1:=mX hs w;cases hg:l[off]? with
  | none=>simp [hg] at hk
  | some v =>
   simp only [hg] at hk;obtain ⟨u,hu,hv⟩:=hl.get hg;refine .val hk hv ?_;have hu':cs[off]? = some u:=by simpa using hu
   simp [part,h1,hu']
theorem zq0 (F:FR E loc st tm a) {t:TypeId} {x:Operand} {y:Arg} {fs:Array Field} {i:Nat} {f:Field} {sz:Option Nat} (hu:P.underlying t=some (.struct fs)) (hf:fs[i]? = some f)
  (hs:pG P f.type=some sz) (hx:zx loc st x=some y) (hk:(PO.part f.offset sz y).ev tm h K=.ok r):Good P E w K r (do pure (.value (<- Instr.field t (a.eval x) i))):=by
 obtain ⟨l,hl,hk⟩:=zqx hk;have h1:=zP F hx;rw [hl] at h1;obtain ⟨hsc,cs,he,hc⟩:=h1.ak;rw [he];obtain ⟨av,v,q1,q2,q3⟩:=zus (P:=P) (w:=w) hs hc hsc hk;refine .mk q1 q2 ?_;rw [<- q3];simp [Instr.field,run_underlying hu,hf,Go.asAgg]
theorem zzf (F:FR E loc st tm a) {x:Operand} {y:Arg} {i:Nat} (hx:zx loc st x=some y) (hk:(PO.ext i y).ev tm h K=.ok r):Good P E w K r (do pure (.value (<- Instr.extract (a.eval x) i))):=by
 obtain ⟨l,hl,hk⟩:=zqy hk;have h1:=zP F hx;rw [hl] at h1;obtain ⟨vs,he,hc⟩:=h1.zff;rw [he];cases hg:l[i]? with
 | none=>simp [hg] at hk
 | some v =>
  simp only [hg] at hk;obtain ⟨u,hu,hv⟩:=hc.get hg;have hu':vs[i]? = some u:=by simpa using hu
  exact .val hk hv (by simp [Instr.extract,hu'])
theorem zlj (F:FR E loc st tm a) (H:HR P B E h nx w) {t:TypeId} {x:Operand} {y:Arg} (hs:pG P t=some none) (hx:zx loc st x=some y) (hk:(PO.load y).ev tm h K=.ok r) :
  Good P E w K r (do pure (.value (<- Instr.loadAt t (a.eval x)))):=by
 rcases qO hk with ⟨id,off,hp,hk⟩ | ⟨l,hp,hk⟩
 case inr =>
  have h1:=zP F hx;rw [hp] at h1;obtain ⟨_,b,off,he,hf⟩:=h1.zfm;rw [he];cases l with
  | nil=>cases hk
  | cons x l =>
   simp only [VRF] at hf;obtain ⟨v,q,r,_⟩:=hf;exact .val hk r (by simp [Instr.loadAt,Instr.sureAddr,loadVar,mX hs w,H.zxm q])
 obtain ⟨op,m,c,hb,hk⟩:=uF hk;obtain ⟨hi,hk⟩:=jD hk;have h1:=zP F hx;rw [hp] at h1;obtain ⟨b,n,hE,he⟩:=h1.tX;rw [he];obtain ⟨v,h2,h3,_⟩:=H.cell hb hE (i:=off) (yG hi);exact .val hk h3 (by simp [Instr.loadAt,Instr.sureAddr,loadVar,mX hs w,h2])
theorem zg7 (F:FR E loc st tm a) (H:HR P B E h nx w) {t:TypeId} {x:Operand} {y:Arg} {s:Nat} (hs:pG P t=some (some s)) (hx:zx loc st x=some y) (hk:(PO.zi s y).ev tm h K=.ok r) :
  Good P E w K r (do pure (.value (<- Instr.loadAt t (a.eval x)))):=by
 rcases qO hk with ⟨id,off,hp,hk⟩ | ⟨l,hp,hk⟩
 case inr =>
  obtain ⟨hle,hk⟩:=jD hk;have hle:=yG hle;have h1:=zP F hx;rw [hp] at h1;obtain ⟨hsc,b,off,he,hf⟩:=h1.zfm;rw [he];obtain ⟨vs,h2,h3,h4⟩:=H.zjo (hf.take s);obtain ⟨h6,h7⟩:=mW hs w;have h8:=run_loadCells_list (P:=P) w ⟨b,off,none⟩ vs h3;rw [h2,Zaj,Zbv hle] at h8;refine .val hk (v:=.agg vs.toArray) ?_ (by simp [Instr.loadAt,Instr.sureAddr,loadVar,h6,h7,h8]);simp only [VR];exact ⟨cC hsc s,_,rfl,by simpa using h4⟩
 obtain ⟨op,m,c,hb,hk⟩:=uF hk;obtain ⟨hi,hk⟩:=jD hk;have h1:=zP F hx;rw [hp] at h1;obtain ⟨b,n,hE,he⟩:=h1.tX;rw [he];obtain ⟨vs,h2,h3,h4,h5⟩:=H.range hb hE (off:=off) (s:=s) (yG hi);obtain ⟨h6,h7⟩:=mW hs w;have h8:=run_loadCells_list (P:=P) w ⟨b,off,none⟩ vs h3;rw [h2] at h8;refine .val hk (v:=.agg vs.toArray) ?_ (by simp [Instr.loadAt,Instr.sureAddr,loadVar,h6,h7,h8]);simp only [VR];exact ⟨h5,_,rfl,by simpa using h4⟩
theorem zq1 (F:FR E loc st tm a) {t:TypeId} {x:Operand} {y:Arg} {fs:Array Field} {i:Nat} {f:Field} {s:Nat} (hu:P.underlying t=some (.struct fs)) (hf:fs[i]? = some f)
  (hs:rA P f.type=some (s+1)) (hx:zx loc st x=some y) (hk:(PO.zal f.offset y).ev tm h K=.ok r):Good P E w K r (do pure (.value (<- Instr.fieldAt t (a.eval x) i))):=by
 rcases qO hk with ⟨id,off,hp,hk⟩ | ⟨l,hp,hk⟩
 case inr =>
  have h1:=zP F hx;rw [hp] at h1;obtain ⟨hsc,b,off,he,hf⟩:=h1.zfm;rw [he];refine .val hk (v:=.pointer (some ⟨b,off+f.offset,none⟩)) (zln (qX hsc _) (hf.drop _)) ?_;simp [Instr.fieldAt,run_underlying hu,hf,Instr.sureAddr,fieldPlace,jX hs,jU, *]
 rw [y4] at hk;have h1:=zP F hx;rw [hp] at h1;obtain ⟨b,n,hE,he⟩:=h1.tX;rw [he];refine .val hk (v:=.pointer (some ⟨b,off+f.offset,none⟩)) (by simp only [VR];exact ⟨b,n,hE,rfl⟩) ?_;simp [Instr.fieldAt,run_underlying hu,hf,Instr.sureAddr,fieldPlace,jX hs,jU]
theorem zq2 (F:FR E loc st tm a) {t e:TypeId} {x i:Operand} {y j:Arg} {s:Nat} (hu:P.underlying t=some (.slice e)) (hs:rA P e=some s) (hx:zx loc st x=some y) (hi:zx loc st i=some j)
  (hk:(PO.aB s y j).ev tm h K=.ok r):Good P E w K r (do pure (.value (<- Instr.indexAt t (a.eval x) (a.eval i)))):=by
 obtain ⟨k,z,hz,hk⟩:=uI hk;rcases kX hk with ⟨id,off,n,cap,esz,hsl,hk⟩ | ⟨_,hk⟩ | ⟨_,hk⟩ | ⟨_,_,hk⟩ | ⟨esz,n,l,hsl,hk⟩
 case inr.inr.inr.inr =>
  cases z with
  | negSucc z=>cases hk
  | ofNat z =>
   obtain ⟨hle,hk⟩:=jD hk;obtain ⟨hle1,hes⟩:=(Zap _ _).mp hle;obtain rfl:=yM hes;have hle:=hle1;have h1:=zP F hx;have h2:=zP F hi;rw [hsl] at h1;rw [hz] at h2;have hlt:z<n:=yG hle;obtain ⟨hsc,_,p,c,he,hp⟩:=h1.aP;obtain ⟨b,off,rfl,_,hf⟩:=hp.resolve_left (by omega);rw [he,h2.xw];refine .val hk (v:=.pointer (some ⟨b,off+z*esz,none⟩)) (zln (qX hsc _) (hf.drop _)) ?_;simp [Instr.indexAt,asIntOf,run_underlying hu,jX hs,hlt,jU]
 .cases z with
  | negSucc z=>cases hk
  | ofNat z =>
   obtain ⟨hle,hk⟩:=jD hk;rw [y4] at hk;have h1:=zP F hx;have h2:=zP F hi;rw [hsl] at h1;rw [hz] at h2;obtain ⟨b,q,c,hE,he,_⟩:=h1.si;rw [he,h2.xw];have hlt:z<n:=yG hle;refine .val hk (v:=.pointer (some ⟨b,off+z*s,none⟩)) (by simp only [VR];exact ⟨b,q,hE,rfl⟩) ?_;simp [Instr.indexAt,asIntOf,run_underlying hu,jX hs,hlt,jU]
 all_goals cases hk
theorem zq3 (F:FR E loc st tm a) {t e:TypeId} {x i:Operand} {y j:Arg} {s n:Nat} (hu:P.underlying t=some (.array n e)) (hs:rA P e=some s) (hx:zx loc st x=some y) (hi:zx loc st i=some j)
  (hk:(PO.zk9 s n y j).ev tm h K=.ok r):Good P E w K r (do pure (.value (<- Instr.indexAt t (a.eval x) (a.eval i)))):=by
 obtain ⟨k,z,hz,hk⟩:=uI hk;rcases qO hk with ⟨id,off,hp,hk⟩ | ⟨l,hp,hk⟩
 case inr =>
  cases z with
  | negSucc z=>cases hk
  | ofNat z =>
   obtain ⟨hle,hk⟩:=jD hk;have h1:=zP F hx;have h2:=zP F hi;rw [hp] at h1;rw [hz] at h2;have hlt:z<n:=yG hle;obtain ⟨hsc,b,off,he,hf⟩:=h1.zfm;rw [he,h2.xw];refine .val hk (v:=.pointer (some ⟨b,off+z*s,none⟩)) (zln (qX hsc _) (hf.drop _)) ?_;simp [Instr.indexAt,asIntOf,run_underlying hu,Instr.sureAddr,jX hs,hlt,jU]
 cases z with
 | negSucc z=>cases hk
 | ofNat z =>
  obtain ⟨hle,hk⟩:=jD hk;rw [y4] at hk;have h1:=zP F hx;have h2:=zP F hi;rw [hp] at h1;rw [hz] at h2;obtain ⟨b,q,hE,he⟩:=h1.tX;rw [he,h2.xw];have hlt:z<n:=yG hle;refine .val hk (v:=.pointer (some ⟨b,off+z*s,none⟩)) (by simp only [VR];exact ⟨b,q,hE,rfl⟩) ?_;simp [Instr.indexAt,asIntOf,run_underlying hu,Instr.sureAddr,jX hs,hlt,jU]
end
end Go.Ev
namespace Go.Ev
open Go
theorem bM (off:Nat):∀ (vs:List Value) (k:Nat) (cs:Array Value),off+k+vs.length<=cs.size ->
  ((vs.zipIdx k).foldl (λcs (x:Value×Nat)=>cs.setIfInBounds (off+x.2) x.1) cs).toList=cs.toList.take (off+k)++vs++cs.toList.drop (off+k+vs.length)
 | [],k,cs,_=>by simp
 | v::vs,k,cs,h=>by
  simp only [Zbc] at h;rw [List.zipIdx_cons,Zco,bM off vs (k+1) _ (by simp;omega)];apply Zbp;intro i;have hl:cs.toList.length=cs.size:=by simp
  simp only [Array.toList_setIfInBounds,Zhj,Zag,Zaj,Zat,Zhl,Zhe,Zhm,hl,Zbc];have e1:min (off+(k+1)) cs.size=off+k+1:=by omega
  have e2:min (off+k) cs.size=off+k:=by omega
  simp only [e1,e2];by_cases h1:i<off+k
  .rw [if_pos (by omega),if_pos (by omega),if_pos (by omega),if_neg (by omega),if_pos (by omega),if_pos h1,if_pos h1]
  .by_cases h2:i=off+k
   .subst h2;rw [if_pos (by omega),if_pos (by omega),if_pos (by omega),if_pos rfl,if_pos (by omega),if_pos (by omega),if_neg (by omega)];simp
   .by_cases h3:i<off+k+1+vs.length
    .rw [if_pos (by omega),if_neg (by omega),if_pos (by omega),if_neg (by omega)];obtain ⟨j,rfl⟩:∃ j,i=off+k+1+j:=⟨i-(off+k+1),by omega⟩;rw [show off+k+1+j-(off+k+1)=j by omega,show off+k+1+j-(off+k)=j+1 by omega];simp
    .rw [if_neg (by omega),if_neg (by omega),if_neg (by omega)]
     congr 1
     omega
section
variable {β:Type} {P:Program} {E:Env} {loc st:List Nat} {tm:Tm} {a:Act} {B:Nat} {h:T Blk} {nx:Pa} {w:World}
theorem wQ (F:FR E loc st tm a) {place:Nat->Option (Nat×Nat)}:∀ {parts:List (Nat×Operand)} {ps:List (Nat×Nat×Arg)},gX loc st place parts=some ps ->
  ∀ {l l':List AV} {cs:Array Value},VRL E l cs.toList->l.all gy=true->gL l (j8 ps tm)=some l' ->
   ∃ cs',Instr.fill place cs (parts.map λp=>(p.1,a.eval p.2))=some cs'/\VRL E l' cs'.toList/\l'.all gy=true/\l'.length=l.length
 | [],ps,hp,l,l',cs,h1,h2,h3=>by
  simp [gX] at hp;subst hp;simp [j8,gL] at h3;subst h3;exact ⟨cs,rfl,h1,h2,rfl⟩
 |(i,x)::parts,ps,hp,l,l',cs,h1,h2,h3=>by
  unfold gX at hp;rw [Zcb] at hp;cases hpl:place i with
  | none=>simp [hpl] at hp
  | some q =>
   obtain ⟨o,s⟩:=q;cases hx:zx loc st x with
   | none=>simp [hpl,hx] at hp
   | some y =>
    cases hr:gX loc st place parts with
    | none=>unfold gX at hr;simp [hpl,hx,hr] at hp
    | some rest =>
     have hr':=hr;unfold gX at hr';simp [hpl,hx,hr'] at hp;subst hp;simp only [j8,Zdh,gL] at h3;cases hc:(y.ev tm).cells with
     | none=>simp [hc] at h3
     | some c =>
      simp only [hc] at h3;cases hb:(Nat.beq c.length s&&Nat.ble (o+s) l.length) with
      | false=>simp [hb] at h3
      | true =>
       simp only [hb,cond_true] at h3;obtain ⟨h4,h5⟩:=(Zap _ _).mp hb;have h4:=yM h4;have h5:=yG h5;obtain ⟨h6,h7⟩:=(zP F hx).cells hc;have hl1:=h1.length;have hl6:=h6.length;simp only [Array.length_toList] at hl1 hl6;have hfs:=bM o (a.eval x).cells.toList 0 cs (by simp;omega);have hval:(((a.eval x).cells.zipIdx.foldl (λcs (x:Value×Nat)=>cs.setIfInBounds (o+x.2) x.1) cs)).toList=cs.toList.take o++(a.eval x).cells.toList++cs.toList.drop (o+c.length):=by
        rw [<- Array.foldl_toList,Array.toList_zipIdx,hfs];simp [hl6]
       obtain ⟨cs',q1,q2,q3,q4⟩:=wQ F hr (l:=gN l o c) (cs:=(a.eval x).cells.zipIdx.foldl (λcs (x:Value×Nat)=>cs.setIfInBounds (o+x.2) x.1) cs) (by
        rw [hval];unfold gN;exact ((h1.take o).append h6).append (h1.drop _)) (by
        unfold gN;simp only [Zez,Zap];rw [Zaw] at h2;exact ⟨⟨by rw [Zaw];exact λx hx=>h2 x (List.take_subset _ _ hx),h7⟩,by rw [Zaw];exact λx hx=>h2 x (List.drop_subset _ _ hx)⟩) h3
       refine ⟨cs',?_,q2,q3,by rw [q4];unfold gN;simp;omega⟩;rw [<- q1];simp only [Zdh,Instr.fill,hpl];rw [if_neg (by simp;omega)]
theorem zhk {fs:Array Field} (hall:fs.toList.all (λf=>(P.info? f.type).isSome)=true) :
  ∃ places:List (Nat×Nat),fs.toList.mapM (λf=>(P.info? f.type).map λi=>(f.offset,i.size))=some places/\∀ i,places.toArray[i]? = qL P fs i:=by
 have key:∀ l:List Field,l.all (λf=>(P.info? f.type).isSome)=true->∃ places:List (Nat×Nat),l.mapM (λf=>(P.info? f.type).map λi=>(f.offset,i.size))=some places /\
   ∀ i:Nat,places[i]? = match l[i]? with | some f=>(rA P f.type).map λs=>(f.offset,s) | none=>none:=by
  intro l
  induction l with
  | nil=>intro _;exact ⟨[],by simp,by simp⟩
  | cons f l ih =>
   intro hl;simp only [Zev,Zap] at hl;obtain ⟨ps,h1,h2⟩:=ih hl.2;cases hi:P.info? f.type with
   | none=>simp [hi] at hl
   | some i =>
    refine ⟨(f.offset,i.size)::ps,by simp [Zcb,hi,h1],?_⟩;intro j;cases j with
    | zero=>simp [rA,hi]
    | succ j=>simpa using h2 j
 obtain ⟨ps,h1,h2⟩:=key _ hall;refine ⟨ps,h1,λi => ?_⟩;have:=h2 i;simp only [Zhq] at this;rw [Zho,this,qL]
 all_goals (cases fs[i]? <;> rfl)
theorem wE {t:TypeId} {z:AV} (hs:gR P t=some z):∃ i v,P.info? t=some i/\i.zero=some v/\∀ E,VR E z v:=by
 unfold gR at hs;cases hi:P.info? t with
 | none=>simp [hi] at hs
 | some i =>
  cases hz:i.zero with
  | none=>simp [hi,hz] at hs
  | some v=>simp [hi,hz] at hs;exact ⟨i,v,rfl,hz,λE=>mZ 8 hs⟩
variable {K:AV->Out β} {r:β}
theorem zne (F:FR E loc st tm a) {t:TypeId} {fs:Array Field} {parts:Array (Nat×Operand)} {z:AV} {zl:List AV} {ps:List (Nat×Nat×Arg)} (hz:gR P t=some z) (hzl:z.cells=some zl)
  (hu:P.underlying t=some (.struct fs)) (hall:fs.toList.all (λf=>(P.info? f.type).isSome)=true) (hp:gX loc st (qL P fs) parts.toList=some ps)
  (hk:(PO.build zl ps).ev tm h K=.ok r):Good P E w K r (do pure (.value (<- Instr.build t (parts.map λ(i,x)=>(i,a.eval x))))):=by
 have hk:(match gL zl (j8 ps tm) with | some l=>K (.agg l) | none=>.no 2)=.ok r:=hk;cases hf:gL zl (j8 ps tm) with
 | none=>simp [hf] at hk
 | some l =>
  simp only [hf] at hk;obtain ⟨it,v,hi,hiz,hv⟩:=wE hz;obtain ⟨h1,h2⟩:=(hv E).cells hzl;obtain ⟨cs',q1,q2,q3,_⟩:=wQ F hp h1 h2 hf;obtain ⟨places,p1,p2⟩:=zhk hall;refine .val hk (v:=.agg cs') (by simp only [VR];exact ⟨q3,_,rfl,q2⟩) (run_build w t _ cs' ?_);simp only [Program.built,hi,hu,hiz,p1];rw [show (λx=>places.toArray[x]?)=qL P fs from funext p2,<- q1];simp
theorem znf (F:FR E loc st tm a) {t e:TypeId} {n s:Nat} {parts:Array (Nat×Operand)} {z:AV} {zl:List AV} {ps:List (Nat×Nat×Arg)} (hz:gR P t=some z) (hzl:z.cells=some zl)
  (hu:P.underlying t=some (.array n e)) (hs:rA P e=some s) (hp:gX loc st (λi=>some (i*s,s)) parts.toList=some ps)
  (hk:(PO.build zl ps).ev tm h K=.ok r):Good P E w K r (do pure (.value (<- Instr.build t (parts.map λ(i,x)=>(i,a.eval x))))):=by
 have hk:(match gL zl (j8 ps tm) with | some l=>K (.agg l) | none=>.no 2)=.ok r:=hk;cases hf:gL zl (j8 ps tm) with
 | none=>simp [hf] at hk
 | some l =>
  simp only [hf] at hk;obtain ⟨it,v,hi,hiz,hv⟩:=wE hz;obtain ⟨h1,h2⟩:=(hv E).cells hzl;obtain ⟨cs',q1,q2,q3,_⟩:=wQ F hp h1 h2 hf;refine .val hk (v:=.agg cs') (by simp only [VR];exact ⟨q3,_,rfl,q2⟩) (run_build w t _ cs' ?_);unfold rA at hs;cases hie:P.info? e with
  | none=>simp [hie] at hs
  | some ie =>
   simp [hie] at hs;subst hs;simp only [Program.built,hi,hu,hiz,hie];rw [<- q1];simp
theorem zbt {op:BinOp} {b:Bool} (hk:bQ op b K=.ok r):(op=.eql/\K (.bool b)=.ok r)\/(op=.neq/\K (.bool (!b))=.ok r):=by
 cases op <;> first | exact .inl ⟨rfl,hk⟩ | exact .inr ⟨rfl,hk⟩ | exact absurd hk (by intro e;cases e)
theorem wX {op:BinOp} {t:TypeId} {x y:Operand} {u v:Value} (h1:u≠.nilIface) (h2:∀ l,u≠.agg l):(eqGuard op t x y u v).run P w=.ok () w:=by
 cases op <;> first
  | rfl
  |(cases u <;> first | rfl | exact absurd rfl h1 | exact absurd rfl (h2 _))
def gF (op:BinOp) (k:IntKind) (a b:Int):Option AV :=
 match op with
 | .add=>some (.int k (k.wrap (a+b)))
 | .sub=>some (.int k (k.wrap (a-b)))
 | .mul=>some (.int k (k.wrap (a*b)))
 | .quo=>if b=0 then none else some (.int k (k.wrap (a.tdiv b)))
 | .rem=>if b=0 then none else some (.int k (a.tmod b))
 | .and=>some (.int k (k.wrap (BitVec.ofInt k.bits a &&& BitVec.ofInt k.bits b).toNat))
 | .or=>some (.int k (k.wrap (BitVec.ofInt k.bits a ||| BitVec.ofInt k.bits b).toNat))
 | .xor=>some (.int k (k.wrap (BitVec.ofInt k.bits a ^^^ BitVec.ofInt k.bits b).toNat))
 | .andNot=>some (.int k (k.wrap (BitVec.ofInt k.bits a &&& ~~~BitVec.ofInt k.bits b).toNat))
 | .shl=>if b<0 then none else some (.int k (k.wrap (a*2 ^ (min b.toNat k.bits))))
 | .shr=>if b<0 then none else some (.int k (a.fdiv (2 ^ (min b.toNat k.bits))))
 | .eql=>some (.bool (a==b))
 | .neq=>some (.bool (!(a==b)))
 | .lss=>some (.bool (decide (a<b)))
 | .leq=>some (.bool (!decide (b<a)))
 | .gtr=>some (.bool (decide (b<a)))
 | .geq=>some (.bool (!decide (a<b)))
theorem zq4 {α:Type} {c:Prop} [Decidable c] {b:Bool} (h:b=decide c) (x y:α):(bif b then x else y)=if c then x else y:=by
 subst h;by_cases hc:c <;> simp [hc]
theorem zng (op:BinOp) (k:IntKind) (m n:Int) (no:Out β):zjc op k m n no K=match gF op k m n with | some v=>K v | none=>no:=by
 have q:∀ {x:Out β},(bif ieq n 0 then no else x)=if n=0 then no else x:=λ{x}=>zq4 (by rw [xM];by_cases h:n=0 <;> simp [h]) _ _
 have s:∀ {x:Out β},(bif ilt n 0 then no else x)=if n<0 then no else x:=λ{x}=>zq4 (by rw [xL]) _ _
 cases op
 case add=>show wu (kK k (iadd m n)) (λz=>K (.int k z))=_;simp [gF]
 case sub=>show wu (kK k (m-n)) (λz=>K (.int k z))=_;simp [gF]
 case mul=>show wu (kK k (m*n)) (λz=>K (.int k z))=_;simp [gF]
 case quo=>show (bif ieq n 0 then no else wu (k.wrap (m.tdiv n)) (λz=>K (.int k z)))=_;rw [q];by_cases h:n=0 <;> simp [gF,h]
 case rem=>show (bif ieq n 0 then no else wu (m.tmod n) (λz=>K (.int k z)))=_;rw [q];by_cases h:n=0 <;> simp [gF,h]
 case and=>show wu (k.wrap (BitVec.ofInt k.bits m &&& BitVec.ofInt k.bits n).toNat) (λz=>K (.int k z))=_;simp [gF]
 case or=>show wu (k.wrap (BitVec.ofInt k.bits m ||| BitVec.ofInt k.bits n).toNat) (λz=>K (.int k z))=_;simp [gF]
 case xor=>show wu (k.wrap (BitVec.ofInt k.bits m ^^^ BitVec.ofInt k.bits n).toNat) (λz=>K (.int k z))=_;simp [gF]
 case andNot=>show wu (k.wrap (BitVec.ofInt k.bits m &&& ~~~BitVec.ofInt k.bits n).toNat) (λz=>K (.int k z))=_;simp [gF]
 case shl=>show (bif ilt n 0 then no else wu (k.wrap (m*2 ^ (min n.toNat k.bits))) (λz=>K (.int k z)))=_;rw [s];by_cases h:n<0 <;> simp [gF,h]
 case shr=>show (bif ilt n 0 then no else wu (m.fdiv (2 ^ (min n.toNat k.bits))) (λz=>K (.int k z)))=_;rw [s];by_cases h:n<0 <;> simp [gF,h]
 case eql=>show K (.bool (ieq m n))=_;simp [gF]
 case neq=>show K (.bool (!ieq m n))=_;simp [gF]
 case lss=>show K (.bool (ilt m n))=_;simp [gF]
 case leq=>show K (.bool (!ilt n m))=_;simp [gF]
 case gtr=>show K (.bool (ilt n m))=_;simp [gF]
 case geq=>show K (.bool (!ilt m n))=_;simp [gF]
theorem uN {k:IntKind} {z:Int}:VR E (.int k z) (.int k z):=by simp only [VR]
theorem u4 {b:Bool}:VR E (.bool b) (.bool b):=by simp only [VR]
theorem zke {s:List UInt8}:VR E (.str s) (.string ⟨s.toArray⟩):=by simp only [VR]
theorem dJ {l:List AV} {vs:Array Value} (h:VRL E l vs.toList):VR E (.tup l) (.tuple vs):=by simp only [VR];exact ⟨vs,rfl,h⟩
theorem mO (m n:Int):(!decide (m<n))=decide (n<=m):=by
 rw [Zfa];simp
theorem zkf {op:BinOp} {k k':IntKind} {m n:Int} {av:AV} (hk:zlb op=true\/k=k') (hs:gF op k m n=some av):∃ v,VR E av v/\∀ t w,(binOp op t (.int k m) (.int k' n)).run P w=.ok v w:=by
 cases op
 case shl =>
  simp only [gF] at hs;by_cases h:n<0
  .rw [if_pos h] at hs;cases hs
  .rw [if_neg h] at hs;injection hs with hs;subst hs
   exact ⟨_,uN,λt w=>by simp [binOp,Op.shift,h]⟩
 case shr =>
  simp only [gF] at hs;by_cases h:n<0
  .rw [if_pos h] at hs;cases hs
  .rw [if_neg h] at hs;injection hs with hs;subst hs
   exact ⟨_,uN,λt w=>by simp [binOp,Op.shift,h]⟩
 all_goals
  obtain rfl:k=k':=hk.resolve_left (by intro e;cases e);simp only [gF] at hs
 case quo =>
  by_cases h:n=0
  .rw [if_pos h] at hs;cases hs
  .rw [if_neg h] at hs;injection hs with hs;subst hs
   exact ⟨_,uN,λt w=>by simp [binOp,Op.intDiv,h]⟩
 case rem =>
  by_cases h:n=0
  .rw [if_pos h] at hs;cases hs
  .rw [if_neg h] at hs;injection hs with hs;subst hs
   exact ⟨_,uN,λt w=>by simp [binOp,Op.intDiv,h]⟩
 all_goals
  injection hs with hs
  subst hs
  first
   | exact ⟨_,uN,λt w=>by first | (simp [binOp,Op.intArith];done) | (simp [binOp,Op.intBits];done)⟩
   | exact ⟨_,u4,λt w=>by first | (simp only [mO];simp [binOp,Op.intCmp];done) | (simp [binOp,Op.intCmp,bne];done)⟩
end
end Go.Ev
namespace Go.Ev
open Go
section
variable {β:Type} {P:Program} {E:Env} {loc st:List Nat} {tm:Tm} {a:Act} {B:Nat} {h:T Blk} {nx:Pa} {w:World}
variable {K:AV->Out β} {r:β}
theorem zq5 {x:AV} {v:Value} (hx:VR E x v) (hn:∀ l,x≠.agg l):v≠.nilIface/\∀ l,v≠.agg l:=by
 refine ⟨?_,?_⟩
 .rintro rfl;cases x <;> simp [VR] at hx
 .rintro l rfl;cases x <;> simp [VR] at hx
  exact hn _ rfl
theorem pC {op:BinOp} {t:TypeId} {x y:Operand} {u v:Value} {av:AV} {z:Value} (hg:(eqGuard op t x y u v).run P w=.ok () w) (hk:K av=.ok r) (hv:VR E av z) (hr:(binOp op t u v).run P w=.ok z w) :
  Good P E w K r (do pure (.value (<- (do eqGuard op t x y u v;binOp op t u v)))) :=
 ⟨av,z,hk,hv,by simp [hg,hr]⟩
theorem znh (F:FR E loc st tm a) {op:BinOp} {t:TypeId} {x y:Operand} {x' y':Arg} (hx:zx loc st x=some x') (hy:zx loc st y=some y') (hk:(PO.bin op .int x' y').ev tm h K=.ok r) :
  Good P E w K r (do pure (.value (<- (do eqGuard op t x y (a.eval x) (a.eval y);binOp op t (a.eval x) (a.eval y))))):=by
 obtain ⟨k,m,h1,hk⟩:=uI hk;obtain ⟨k',n,h2,hk⟩:=uI hk;obtain ⟨hs,hk⟩:=jD hk;have v1:=zP F hx;have v2:=zP F hy;rw [h1] at v1;rw [h2] at v2;rw [v1.xw,v2.xw];rw [zng] at hk;cases hsp:gF op k m n with
 | none=>simp [hsp] at hk
 | some av =>
  simp only [hsp] at hk;obtain ⟨v,q1,q2⟩:=zkf (P:=P) (E:=E) (k':=k') (by rcases (Zdm _ _).mp hs with q | q;exact .inl q;exact .inr (wL q)) hsp;exact pC (wX (by intro e;cases e) (by intro l e;cases e)) hk q1 (q2 t w)
theorem zni (F:FR E loc st tm a) {op:BinOp} {t:TypeId} {x y:Operand} {x' y':Arg} (hx:zx loc st x=some x') (hy:zx loc st y=some y') (hk:(PO.bin op .str x' y').ev tm h K=.ok r) :
  Good P E w K r (do pure (.value (<- (do eqGuard op t x y (a.eval x) (a.eval y);binOp op t (a.eval x) (a.eval y))))):=by
 obtain ⟨s,h1,hk⟩:=pD hk;obtain ⟨s',h2,hk⟩:=pD hk;have v1:=zP F hx;have v2:=zP F hy;rw [h1] at v1;rw [h2] at v2;rw [v1.og,v2.og];have hg:(eqGuard op t x y (.string ⟨s.toArray⟩) (.string ⟨s'.toArray⟩)).run P w=.ok () w:=wX (by intro e;cases e) (by intro l e;cases e);have heq:j5 s s'=((⟨s.toArray⟩:ByteArray).toList==(⟨s'.toArray⟩:ByteArray).toList):=by
  rw [ByteArray.toList_eq,ByteArray.toList_eq,Zfa,xh];simp
 by_cases hop:op=.add
 .subst hop;obtain ⟨hl,hk⟩:=jD hk;have hl:=yG hl;refine pC hg hk (z:=.string ⟨(s++s').toArray⟩) zke ?_;have hsz:((⟨s.toArray⟩:ByteArray).size+(⟨s'.toArray⟩:ByteArray).size:Nat)=s.length+s'.length:=by simp [ByteArray.size]
  have:¬ (IntKind.i64.max<(((⟨s.toArray⟩:ByteArray).size+(⟨s'.toArray⟩:ByteArray).size:Nat):Int)):=by
   rw [hsz];simp only [IntKind.max,IntKind.signed,IntKind.bits,if_true];omega
  have happ:(⟨s.toArray⟩:ByteArray)++(⟨s'.toArray⟩:ByteArray)=⟨(s++s').toArray⟩:=by
   apply ByteArray.ext;simp [ByteArray.data_append]
  simp only [binOp,Op.stringOp];rw [if_neg this,happ]
  rfl
 .have hk:bQ op (j5 s s') K=.ok r:=by cases op <;> first | exact hk | exact absurd rfl hop
  rcases zbt hk with ⟨rfl,hk⟩ | ⟨rfl,hk⟩
  .exact pC hg hk u4 (by rw [heq];rfl)
  .exact pC hg hk u4 (by rw [heq];rfl)
theorem p7 (t:TypeId) (u v:Value):Op.equal t u v=Op.equalIn (9999+1) t u v:=rfl
theorem zkg (F:FR E loc st tm a) {op:BinOp} {t:TypeId} (ht:P.underlying t=some .bool) {x y:Operand} {x' y':Arg} (hx:zx loc st x=some x') (hy:zx loc st y=some y')
  (hk:(PO.bin op .bool x' y').ev tm h K=.ok r):Good P E w K r (do pure (.value (<- (do eqGuard op t x y (a.eval x) (a.eval y);binOp op t (a.eval x) (a.eval y))))):=by
 obtain ⟨s,h1,hk⟩:=vM hk;obtain ⟨s',h2,hk⟩:=vM hk;have v1:=zP F hx;have v2:=zP F hy;rw [h1] at v1;rw [h2] at v2;rw [v1.ah,v2.ah];have hg:(eqGuard op t x y (.bool s) (.bool s')).run P w=.ok () w:=wX (by intro e;cases e) (by intro l e;cases e);have he:(Op.equal t (.bool s) (.bool s')).run P w=.ok (s==s') w:=by
  rw [p7]
  generalize 9999=q
  simp [Op.equalIn,run_underlying ht]
 rcases zbt hk with ⟨rfl,hk⟩ | ⟨rfl,hk⟩
 .exact pC hg hk u4 (by simp [binOp,he])
 .exact pC hg hk u4 (by simp [binOp,he])
def zq6:NK->TypeDesc->Bool
 | .sl,.slice _ | .mp,.map _ _ | .fn,.func _ _ _ | .pt,.pointer _=>true
 | _,_=>false
theorem mE {e n:Nat} {l:List AV} {b:Bool} (h:uY .sl (.lst e n l)=some b):b=false/\1<=n:=by
 simp only [uY] at h;cases hb:Nat.ble 1 n with
 | true=>simp [hb] at h;exact ⟨h,yG hb⟩
 | false=>simp [hb] at h
theorem znj {k:NK} {t:TypeId} {d:TypeDesc} (hd:P.underlying t=some d) (hk:zq6 k d=true) {x y:AV} {u v:Value} (hx:VR E x u) (hy:VR E y v) {b:Bool} (h1:uY k x=some b) (h2:uY k y=some true) :
  (Op.equal t u v).run P w=.ok b w/\binOp .eql t u v=(do pure (.bool (<- Op.equal t u v)))/\binOp .neq t u v=(do pure (.bool (!(<- Op.equal t u v)))):=by
 cases k <;> cases d <;> first | (cases hk;done) | skip
 all_goals cases y <;> first | (cases h2;done) | (exact absurd (mE h2).1 (by simp);done) | skip
 all_goals cases x <;> first | (cases h1;done) | skip
 case sl.slice.zb.lst =>
  obtain ⟨rfl,hn⟩:=mE h1;obtain ⟨_,_,p,c,rfl,hp⟩:=hx.aP;obtain ⟨bb,off,rfl,_⟩:=hp.resolve_left (by omega);simp only [VR] at hy;subst hy;refine ⟨?_,rfl,rfl⟩;rw [p7];generalize 9999=q;simp [Op.equalIn,run_underlying hd]
 all_goals (simp only [uY,Option.some.injEq] at h1;subst h1;simp only [VR] at hx hy;subst hy)
 all_goals first | subst hx | (obtain ⟨_,_,_,_,rfl,_⟩:=hx) | (obtain ⟨_,_,_,rfl⟩:=hx) | (obtain ⟨_,_,rfl⟩:=hx) | (obtain ⟨_,_,rfl,_⟩:=hx) | (obtain ⟨_,_,_,rfl,_⟩:=hx)
 all_goals refine ⟨?_,rfl,rfl⟩
 all_goals (rw [p7];generalize 9999=q;simp [Op.equalIn,run_underlying hd])
theorem pR (F:FR E loc st tm a) {k:NK} {op:BinOp} {t:TypeId} {d:TypeDesc} (hd:P.underlying t=some d) (hkd:zq6 k d=true) {x y:Operand} {x' y':Arg} (hx:zx loc st x=some x') (hy:zx loc st y=some y')
  (hk:(PO.bin op (.nil k) x' y').ev tm h K=.ok r):Good P E w K r (do pure (.value (<- (do eqGuard op t x y (a.eval x) (a.eval y);binOp op t (a.eval x) (a.eval y))))):=by
 have hk:(match uY k (x'.ev tm),uY k (y'.ev tm) with
  | some b,some true=>bQ op b K
  | _,_=>.no 5)=.ok r:=hk
 have v1:=zP F hx;have v2:=zP F hy;cases h1:uY k (x'.ev tm) with
 | none=>simp [h1] at hk
 | some b =>
  cases h2:uY k (y'.ev tm) with
  | none=>simp [h1,h2] at hk
  | some b' =>
   cases b' with
   | false=>simp [h1,h2] at hk
   | true =>
    simp only [h1,h2] at hk;have hne:∀ l,x'.ev tm≠.agg l:=λl e=>by rw [e] at h1;cases k <;> cases h1
    obtain ⟨g1,g2⟩:=zq5 v1 hne;have hg:(eqGuard op t x y (a.eval x) (a.eval y)).run P w=.ok () w:=wX g1 g2;obtain ⟨q1,q2,q3⟩:=znj (w:=w) hd hkd v1 v2 h1 h2;rcases zbt hk with ⟨rfl,hk⟩ | ⟨rfl,hk⟩
    .exact pC hg hk u4 (by rw [q2];simp [q1])
    .exact pC hg hk u4 (by rw [q3];simp [q1])
end
end Go.Ev
namespace Go.Ev
open Go
section
variable {β:Type} {P:Program} {E:Env} {loc st:List Nat} {tm:Tm} {a:Act} {B:Nat} {h:T Blk} {nx:Pa} {w:World}
variable {K:AV->Out β} {r:β}
theorem zlr (d:Nat) {e:TypeId} {kk:IntKind} (he:P.underlying e=some (.int kk)) (xs ys:Array Value):∀ (l l':List AV) (b:Bool) (i:Nat),VRL E l (xs.toList.drop i)->VRL E l' (ys.toList.drop i)->kY l l'=some b ->
    (forIn (List.range' i l.length) ((none,()):Option Bool×Unit) (λi _=>do
            let x <- part e xs i
            let y <- part e ys i
            let q <- Op.equalIn (d+1) e x y
            if q=false then pure (ForInStep.done (some false,())) else pure (ForInStep.yield (none,())))).run P w=.ok (if b then (none,()) else (some false,())) w
  | [],[],b,i,_,_,h3=>by simp [kY] at h3;subst h3;rfl
  | [],_::_,b,i,_,_,h3=>by simp [kY] at h3
  | x::_,[],b,i,_,_,h3=>by simp [kY] at h3
  | x::l,y::l',b,i,h1,h2,h3=>by
    cases x <;> first | (simp [kY] at h3;done) | skip
    cases y <;> first | (simp [kY] at h3;done) | skip
    rename_i k m k' n;simp only [kY] at h3;obtain ⟨hkk,h4⟩:vB k k'=true/\(bif ieq m n then kY l l' else some false)=some b:=by
      cases hq:vB k k' with
      | true=>simpa [hq] using h3
      | false=>simp [hq] at h3
    clear h3
    obtain rfl:=wL hkk;simp only [VRL] at h1 h2;obtain ⟨u,vs,e1,q1,s1⟩:=h1;obtain ⟨v,vs',e2,q2,s2⟩:=h2;rw [q1.xw] at e1;rw [q2.xw] at e2;have g1:xs[i]? = some (.int k m):=by
      have:=congrArg (λl:List Value=>l[0]?) e1;simpa using this
    have g2:ys[i]? = some (.int k n):=by
      have:=congrArg (λl:List Value=>l[0]?) e2;simpa using this
    have d1:xs.toList.drop (i+1)=vs:=by
      have:=congrArg (λl:List Value=>l.drop 1) e1;simpa [Zfk,Zdt] using this
    have d2:ys.toList.drop (i+1)=vs':=by
      have:=congrArg (λl:List Value=>l.drop 1) e2;simpa [Zfk,Zdt] using this
    have hag:(isAgg e).run P w=.ok false w:=by rw [pL he]
    have p1:(part e xs i).run P w=.ok (.int k m) w:=by simp [part,hag,g1]
    have p2:(part e ys i).run P w=.ok (.int k n) w:=by simp [part,hag,g2]
    have p3:(Op.equalIn (d+1) e (.int k m) (.int k n)).run P w=.ok (m==n) w:=by simp [Op.equalIn,run_underlying he]
    rw [xM] at h4;rw [Zbc,List.range'_succ,List.forIn_cons];simp only [Sem.run_bind,p1,p2,p3,Result.andThen_ok];cases hmn:(m==n) with
    | true =>
      simp only [hmn,cond_true] at h4;simp only [Bool.true_eq_false,if_false,Sem.run_pure,Result.andThen_ok];exact zlr d he xs ys l l' b (i+1) (by rw [d1];exact s1) (by rw [d2];exact s2) h4
    | false =>
      simp only [hmn,cond_false,Option.some.injEq] at h4;subst h4;simp
theorem zq7 (d:Nat) {t e:TypeId} {n:Nat} (ht:P.underlying t=some (.array n e)) (hs:(sizeOf e).run P w=.ok 1 w) (xs ys:Array Value) :
    (Op.equalIn (d+1) t (.agg xs) (.agg ys)).run P w=((forIn (List.range' 0 n) ((none,()):Option Bool×Unit) (λi _=>do
            let x <- part e xs i
            let y <- part e ys i
            let q <- Op.equalIn d e x y
            if q=false then pure (ForInStep.done (some false,())) else pure (ForInStep.yield (none,())))).run P w).andThen
      λa w'=>Sem.run P (match a.fst with | some r=>pure r | none=>pure true) w':=by
  simp [Op.equalIn,run_underlying ht,hs]
  congr 1
  funext x w'
  obtain ⟨f,u⟩:=x;cases f <;> rfl
theorem znk {t e:TypeId} {n:Nat} {kk:IntKind} (ht:P.underlying t=some (.array n e)) (he:P.underlying e=some (.int kk)) (hs:rA P e=some 1) {l l':List AV} {xs ys:Array Value} (h1:VRL E l xs.toList) (h2:VRL E l' ys.toList)
  (hl:l.length=n) {b:Bool} (hb:kY l l'=some b):(Op.equal t (.agg xs) (.agg ys)).run P w=.ok b w:=by
 have this:=zlr (P:=P) (w:=w) 9998 he xs ys l l' b 0 (by simpa using h1) (by simpa using h2) hb;rw [hl] at this;rw [p7,zq7 _ ht (jX hs w) xs ys,this];cases b <;> rfl
theorem zzg (F:FR E loc st tm a) {x:Operand} {y:Arg} (hx:zx loc st x=some y) (hk:(PO.neg y).ev tm h K=.ok r):Good P E w K r (do pure (.value (<- Op.unary .neg (a.eval x)))):=by
 obtain ⟨k,m,h1,hk⟩:=uI hk;rw [uE,qE] at hk;have v1:=zP F hx;rw [h1] at v1;rw [v1.xw];exact .val hk uN (by simp [Op.unary,Op.intArith])
theorem zzh (F:FR E loc st tm a) {x:Operand} {y:Arg} (hx:zx loc st x=some y) (hk:(PO.not y).ev tm h K=.ok r):Good P E w K r (do pure (.value (<- Op.unary .not (a.eval x)))):=by
 obtain ⟨b,h1,hk⟩:=vM hk;have v1:=zP F hx;rw [h1] at v1;rw [v1.ah];exact .val hk u4 (by simp [Op.unary])
theorem zut (F:FR E loc st tm a) {s t:TypeId} {k0 k:IntKind} (hs:P.underlying s=some (.int k0)) (ht:P.underlying t=some (.int k)) {x:Operand} {y:Arg} (hx:zx loc st x=some y) (hk:(PO.conv k y).ev tm h K=.ok r) :
  Good P E w K r (do pure (.value (<- convert s t (a.eval x)))):=by
 obtain ⟨k1,m,h1,hk⟩:=uI hk;rw [uE,qE] at hk;have v1:=zP F hx;rw [h1] at v1;rw [v1.xw];exact .val hk uN (by simp [convert,run_underlying hs,run_underlying ht,Conv.intToInt])
end
end Go.Ev
namespace Go.Ev
open Go
section
variable {β:Type} {P:Program} {E:Env} {loc st:List Nat} {tm:Tm} {a:Act} {B:Nat} {h:T Blk} {nx:Pa} {w:World}
variable {K:AV->Out β} {r:β}
theorem zuu (F:FR E loc st tm a) {t:TypeId} {x i:Operand} {y j:Arg} (hu:P.underlying t=some .string) (hx:zx loc st x=some y) (hi:zx loc st i=some j)
  (hk:(PO.sidx y j).ev tm h K=.ok r):Good P E w K r (do pure (.value (<- Instr.index t (a.eval x) (a.eval i)))):=by
 obtain ⟨k,z,hz,hk⟩:=uI hk;obtain ⟨s,hs,hk⟩:=pD hk;cases z with
 | negSucc z=>cases hk
 | ofNat z =>
  cases hg:s[z]? with
  | none=>simp [hg] at hk
  | some b =>
   simp only [hg,y4] at hk;have v1:=zP F hx;have v2:=zP F hi;rw [hs] at v1;rw [hz] at v2;rw [v1.og,v2.xw];refine .val hk uN ?_;have hb:(⟨s.toArray⟩:ByteArray)[z]? = some b:=by
    rw [Zgv] at hg;obtain ⟨hlt,hg⟩:=hg;rw [getElem?_pos (⟨s.toArray⟩:ByteArray) z (by simpa [ByteArray.size] using hlt)]
    congr 1
   simp [Instr.index,asIntOf,run_underlying hu,hb]
theorem wC {v:AV} {y n:Nat} (hb:kJ v y=some n):∃ k,v=.int k (.ofNat n)/\n<=y:=by
 unfold kJ at hb;split at hb
 .rename_i k m;cases hm:Nat.ble m y with
  | false=>simp [hm] at hb
  | true=>simp [hm] at hb;subst hb;exact ⟨k,rfl,yG hm⟩
 .cases hb
def VO (E:Env):Option AV->Option Value->Prop
 | none,none=>True
 | some a,some b=>VR E a b
 | _,_=>False
theorem uV (F:FR E loc st tm a) {x:Option Operand} {y:Option Arg} (hx:tL loc st x=some y):VO E (y.map (Arg.ev · tm)) (x.map a.eval):=by
 cases x with
 | none=>simp [tL] at hx;subst hx;trivial
 | some x =>
  simp only [tL] at hx;cases hq:zx loc st x with
  | none=>simp [hq] at hx
  | some z=>simp [hq] at hx;subst hx;exact zP F hq
theorem gU {x:AV} {v:Value} (hv:VR E x v) {y n:Nat} (hb:kJ x y=some n) (c:BoundsCode):(Instr.sliceBound v y c).run P w=.ok n w/\n<=y:=by
 obtain ⟨k,rfl,hle⟩:=wC hb;rw [hv.xw];refine ⟨?_,hle⟩;simp [Instr.sliceBound,asIntOf,hle]
theorem mS {o:Option AV} {y d n:Nat} (hd:d<=y) (hb:bnd o y d=some n):n<=y:=by
 cases o with
 | none=>simp [bnd] at hb;omega
 | some v=>obtain ⟨_,_,h⟩:=wC (show kJ v y=some n from hb);exact h
theorem zcx {u:AV} {m d h:Nat} (hb:bnd (some u) m d=some h):h<=m:=by
 obtain ⟨_,_,q⟩:=wC (show kJ u m=some h from hb);exact q
theorem zhl {o:Option AV} {y y' d n:Nat} (hy:y<=y') (hb:bnd o y d=some n):bnd o y' d=some n:=by
 cases o with
 | none=>simpa [bnd] using hb
 | some v =>
  obtain ⟨k,rfl,h⟩:=wC (show kJ v y=some n from hb);show kJ (.int k (.ofNat n)) y'=some n;simp only [kJ];rw [Zak (by omega)];rfl
theorem kI {isSl:Bool} {lo hi mx:Option AV} {lo' hi' mx':Option Value} (h1:VO E lo lo') (h2:VO E hi hi') (h3:VO E mx mx') (hno:(mx.isSome&&hi.isNone)=false) {ln cap m h l:Nat}
  (hm:bnd mx cap cap=some m) (hh:bnd hi m ln=some h) (hl:bnd lo h 0=some l):(Instr.sliceBounds isSl ln cap lo' hi' mx').run P w=.ok (l,h,m) w:=by
 unfold Instr.sliceBounds;cases mx with
 | none =>
  cases mx' with
  | some _=>exact h3.elim
  | none =>
   simp [bnd] at hm;subst hm;cases hi with
   | none =>
    cases hi' with
    | some _=>exact h2.elim
    | none =>
     simp [bnd] at hh;subst hh;cases lo with
     | none =>
      cases lo' with
      | some _=>exact h1.elim
      | none=>simp [bnd] at hl;subst hl;simp
     | some v =>
      cases lo' with
      | none=>exact h1.elim
      | some v'=>simp [(gU (P:=P) (w:=w) h1 hl _).1]
   | some u =>
    cases hi' with
    | none=>exact h2.elim
    | some u' =>
     have e2:=λc=>(gU (P:=P) (w:=w) h2 hh c).1;cases lo with
     | none =>
      cases lo' with
      | some _=>exact h1.elim
      | none=>simp [bnd] at hl;subst hl;simp [e2]
     | some v =>
      cases lo' with
      | none=>exact h1.elim
      | some v'=>simp [e2,(gU (P:=P) (w:=w) h1 hl _).1]
 | some q =>
  cases mx' with
  | none=>exact h3.elim
  | some q' =>
   have e3:=λc=>(gU (P:=P) (w:=w) h3 hm c).1;cases hi with
   | none=>simp at hno
   | some u =>
    cases hi' with
    | none=>exact h2.elim
    | some u' =>
     have e2:=λc=>(gU (P:=P) (w:=w) h2 hh c).1;cases lo with
     | none =>
      cases lo' with
      | some _=>exact h1.elim
      | none=>simp [bnd] at hl;subst hl;simp [e2,e3]
     | some v =>
      cases lo' with
      | none=>exact h1.elim
      | some v'=>simp [e2,e3,(gU (P:=P) (w:=w) h1 hl _).1]
theorem xS {t e:TypeId} {esz:Nat} (hu:P.underlying t=some (.slice e)) (hs:rA P e=some esz) {av:Option Addr} {ln cap m h l:Nat} {lo' hi' mx':Option Value}
  (hb:(Instr.sliceBounds true ln cap lo' hi' mx').run P w=.ok (l,h,m) w):(Instr.slice t (.slice av ln cap) lo' hi' mx').run P w=.ok (.slice (if m=l then av else av.map (·.add (l*esz))) (h-l) (m-l)) w:=by
 simp [Instr.slice,run_underlying hu,hb,jX hs]
theorem kZ {id:Pa} {off ln esz b n c:Nat} {cap:Option Nat} (hE:E id=some (b,n)) (hc:zgz n off ln esz c cap):VR E (.sl id off ln cap esz) (.slice (some ⟨b,off,none⟩) ln c):=by
 simp only [VR];exact ⟨b,n,c,hE,rfl,hc⟩
theorem zfn {t e:TypeId} {esz:Nat} (hu:P.underlying t=some (.slice e)) (hs:rA P e=some esz) {x:AV} {v:Value} (hx:VR E x v) {lo hi mx:Option AV} {lo' hi' mx':Option Value} (h1:VO E lo lo') (h2:VO E hi hi') (h3:VO E mx mx')
  (hk:zar esz x lo hi mx K=.ok r):∃ y u,K y=.ok r/\VR E y u/\(Instr.slice t v lo' hi' mx').run P w=.ok u w:=by
 rcases kX hk with ⟨id,off,ln,cap,e',rfl,hk⟩ | ⟨rfl,hk⟩ | ⟨rfl,hk⟩ | ⟨_,rfl,hk⟩ | ⟨e',n,l,rfl,hk⟩
 case inr.inr.inr.inr =>
  obtain ⟨he,hk⟩:=jD hk;obtain ⟨he,hn⟩:=(Zap _ _).mp he;obtain rfl:=yM he;have hn:=yG hn;obtain ⟨hsc,hlen,p,c,rfl,hp⟩:=hx.aP;obtain ⟨b,off,rfl,hnc,hf⟩:=hp.resolve_left (by omega);unfold zjd at hk;cases hno:(mx.isSome&&hi.isNone) with
  | true=>rw [hno] at hk;cases hk
  | false =>
   rw [hno,cond_false] at hk;cases hm:bnd mx n n with
   | none=>rw [hm] at hk;cases hk
   | some m =>
   rw [hm] at hk
   dsimp only at hk
   have hmn:m<=n:=mS (Zaf _) hm;cases hh:bnd hi m n with
   | none=>rw [hh] at hk;cases hk
   | some h =>
    rw [hh] at hk
    dsimp only at hk
    cases hl:bnd lo h 0 with
    | none=>rw [hl] at hk;cases hk
    | some l0 =>
     rw [hl] at hk
     dsimp only at hk
     have hl0:l0<=h:=mS (Zdl _) hl;obtain ⟨m',hm',hh',hhm,hhn⟩:∃ m',bnd mx c c=some m'/\bnd hi m' n=some h/\h<=m'/\h<=n:=by
      cases mx with
      | some q =>
       have e:bnd (some q) c c=some m:=by
        have:=zhl (o:=some q) hnc hm;exact this
       have hhm:h<=m:=by
        cases hi with
        | none=>simp at hno
        | some u=>exact (zcx hh)
       exact ⟨m,e,hh,hhm,by omega⟩
      | none =>
       obtain rfl:m=n:=by simpa [bnd] using hm.symm
       have hhn:h<=m:=mS (Zaf _) hh;exact ⟨c,rfl,zhl hnc hh,by omega,hhn⟩
     have hb:=kI (P:=P) (w:=w) (isSl:=true) h1 h2 h3 hno hm' hh' hl;refine ⟨_,_,hk,?_,xS hu hs hb⟩;simp only [VR];refine ⟨cC (qX hsc _) _,?_,_,_,rfl,?_⟩
     .rw [Zaj,Zcl,hlen,<- Nat.sub_mul];exact Zbv (Zbk _ (by omega))
     .by_cases h0:h-l0=0
      .exact .inl ⟨h0,by intro q;split at q <;> cases q⟩
      .right
       refine ⟨b,off+l0*e',?_,by omega,(hf.drop _).take _⟩;rw [if_neg (by omega)];simp [jU]
 .obtain ⟨he,hk⟩:=jD hk;obtain rfl:=yM he;obtain ⟨b,n,c,hE,rfl,hc⟩:=hx.si;cases cap with
  | some q =>
   obtain rfl:c=q:=hc;have hk:mM id off ln c e' lo hi mx K=.ok r:=hk;unfold mM at hk;cases hno:(mx.isSome&&hi.isNone) with
   | true=>simp [hno] at hk
   | false =>
    rw [hno,cond_false] at hk;cases hm:bnd mx c c with
    | none=>simp [hm] at hk
    | some m =>
     cases hh:bnd hi m ln with
     | none=>simp [hm,hh] at hk
     | some h' =>
      cases hl:bnd lo h' 0 with
      | none=>simp [hm,hh,hl] at hk
      | some l =>
       simp only [hm,hh,hl,y4] at hk;have hrun:=xS (P:=P) (w:=w) hu hs (av:=some ⟨b,off,none⟩) (kI (P:=P) (w:=w) (isSl:=true) h1 h2 h3 hno hm hh hl);by_cases hml:m=l
       .rw [aZ hml,cond_true] at hk;rw [if_pos hml] at hrun;exact ⟨_,_,hk,kZ hE (by show _=_;omega),hrun⟩
       .rw [aL hml,cond_false] at hk;rw [if_neg hml] at hrun;simp only [Zcy,jU] at hrun;exact ⟨_,_,hk,kZ hE rfl,hrun⟩
  | none =>
   obtain ⟨hc1,hc2⟩:ln<=c/\off+c*e'=n:=hc;have hk:zaq id off ln e' lo hi mx K=.ok r:=hk;unfold zaq at hk;cases mx with
   | none =>
    simp only at hk;cases hh:bnd hi ln ln with
    | none=>simp [hh] at hk
    | some h' =>
     cases hl:bnd lo h' 0 with
     | none=>simp [hh,hl] at hk
     | some l =>
      simp only [hh,hl,y4] at hk;have hle:=mS (Zaf _) hh;have hll:=mS (Zdl _) hl;have hh2:bnd hi c ln=some h':=by
       cases hi with
       | none=>exact hh
       | some q =>
        obtain ⟨k,rfl,hq⟩:=wC (show kJ q ln=some h' from hh);simp only [bnd,kJ];rw [Zak (by omega),cond_true]
      have hrun:=xS (P:=P) (w:=w) hu hs (av:=some ⟨b,off,none⟩) (kI (P:=P) (w:=w) (isSl:=true) h1 h2 h3 (by simp) (show bnd none c c=some c from rfl) hh2 hl);by_cases h0:l=0
      .subst h0;rw [aZ rfl,cond_true] at hk;simp only [Zcy,jU,Nat.zero_mul,Zee,Nat.sub_zero,ite_self] at hrun;exact ⟨_,_,hk,kZ hE ⟨by omega,hc2⟩,hrun⟩
      .rw [aL h0,cond_false] at hk;by_cases hlt:l+1<=ln
       .rw [Zak hlt,cond_true] at hk;rw [if_neg (by omega)] at hrun;simp only [Zcy,jU] at hrun;refine ⟨_,_,hk,kZ hE ⟨by omega,?_⟩,hrun⟩;rw [<- hc2,Zcu,<- Zbu]
        congr 2;omega
       .rw [bleF hlt,cond_false] at hk;refine ⟨_,_,hk,?_,hrun⟩;simp only [VR];have e0:h'-l=0:=by omega
        rw [e0];by_cases hml:c=l
        .rw [if_pos hml];exact ⟨_,_,rfl⟩
        .rw [if_neg hml];exact ⟨_,_,rfl⟩
   | some mv =>
    simp only at hk;cases hi with
    | none=>simp at hk
    | some hv =>
     simp only [Option.isNone_some,cond_false] at hk;cases hm:kJ mv ln with
     | none=>simp [hm] at hk
     | some m =>
      cases hh:bnd (some hv) m 0 with
      | none=>simp [hm,hh] at hk
      | some h' =>
       cases hl:bnd lo h' 0 with
       | none=>simp [hm,hh,hl] at hk
       | some l =>
        simp only [hm,hh,hl,y4] at hk;by_cases hml:m=l
        .rw [aZ hml] at hk;cases hk
        .rw [aL hml,cond_false] at hk;have hm2:bnd (some mv) c c=some m:=by
          obtain ⟨k,rfl,hq⟩:=wC hm;simp only [bnd,kJ];rw [Zak (by omega),cond_true]
         have hrun:=xS (P:=P) (w:=w) hu hs (av:=some ⟨b,off,none⟩) (kI (P:=P) (w:=w) (isSl:=true) h1 h2 h3 (by simp) hm2 (show bnd (some hv) m ln=some h' from hh) hl);rw [if_neg hml] at hrun;simp only [Zcy,jU] at hrun;exact ⟨_,_,hk,kZ hE rfl,hrun⟩
 .have hv:v=.slice none 0 0:=by simpa only [VR] using hx
  subst hv;have hk:zey lo hi mx K=.ok r:=hk;unfold zey at hk;cases mx with
  | some _=>simp at hk
  | none =>
   cases hh:bnd hi 0 0 with
   | none=>simp [hh] at hk
   | some h' =>
    cases hl:bnd lo 0 0 with
    | none=>simp [hh,hl] at hk
    | some l =>
     simp only [hh,hl] at hk;have e1:=mS (Zaf _) hh;have e2:=mS (Zaf _) hl;obtain rfl:h'=0:=by omega
     obtain rfl:l=0:=by omega
     have hrun:=xS (P:=P) (w:=w) hu hs (av:=none) (kI (P:=P) (w:=w) (isSl:=true) h1 h2 h3 (by simp) (show bnd none 0 0=some 0 from rfl) hh hl);exact ⟨_,_,hk,by simp only [VR];rfl,hrun⟩
 .cases hk
 .cases hk
theorem zq8 (F:FR E loc st tm a) {t e:TypeId} {esz:Nat} (hu:P.underlying t=some (.slice e)) (hs:rA P e=some esz) {x:Operand} {y:Arg} {lo hi mx:Option Operand} {lo' hi' mx':Option Arg} (hx:zx loc st x=some y)
  (h1:tL loc st lo=some lo') (h2:tL loc st hi=some hi') (h3:tL loc st mx=some mx') (hk:(PO.slice esz y lo' hi' mx').ev tm h K=.ok r) :
  Good P E w K r (do pure (.value (<- Instr.sliceAt t (a.eval x) (lo.map a.eval) (hi.map a.eval) (mx.map a.eval)))):=by
 obtain ⟨z,u,q1,q2,q3⟩:=zfn (P:=P) (w:=w) hu hs (zP F hx) (uV F h1) (uV F h2) (uV F h3) hk;exact .val q1 q2 (by simp [Instr.sliceAt,run_underlying hu,q3])
theorem znl (F:FR E loc st tm a) {t e:TypeId} {esz n:Nat} (hu:P.underlying t=some (.array n e)) (hs:rA P e=some esz) {x:Operand} {y:Arg} {lo hi mx:Option Operand} {lo' hi' mx':Option Arg} (hx:zx loc st x=some y)
  (h1:tL loc st lo=some lo') (h2:tL loc st hi=some hi') (h3:tL loc st mx=some mx') (hk:(PO.aslice esz n y lo' hi' mx').ev tm h K=.ok r) :
  Good P E w K r (do pure (.value (<- Instr.sliceAt t (a.eval x) (lo.map a.eval) (hi.map a.eval) (mx.map a.eval)))):=by
 have v1:=zP F hx;have h1:=uV F h1;have h2:=uV F h2;have h3:=uV F h3;rcases qO hk with ⟨id,off,hy,hk⟩ | ⟨_,_,hk⟩
 case inr=>cases hk
 rw [hy] at v1;simp only [VR] at v1;obtain ⟨b,nn,hE,he⟩:=v1;unfold mM at hk;cases hno:((mx'.map (Arg.ev · tm)).isSome&&(hi'.map (Arg.ev · tm)).isNone) with
 | true=>rw [hno] at hk;cases hk
 | false =>
  rw [hno,cond_false] at hk;cases hm:bnd (mx'.map (Arg.ev · tm)) n n with
  | none=>rw [hm] at hk;cases hk
  | some m =>
   cases hh:bnd (hi'.map (Arg.ev · tm)) m n with
   | none=>simp only [hm,hh] at hk;cases hk
   | some h' =>
    cases hl:bnd (lo'.map (Arg.ev · tm)) h' 0 with
    | none=>simp only [hm,hh,hl] at hk;cases hk
    | some l =>
     simp only [hm,hh,hl,y4] at hk;have hb:=kI (P:=P) (w:=w) (isSl:=false) h1 h2 h3 hno hm hh hl;have hrun:(Instr.sliceAt t (a.eval x) (lo.map a.eval) (hi.map a.eval) (mx.map a.eval)).run P w=.ok (.slice (some (if m=l then ⟨b,off,none⟩ else (⟨b,off,none⟩:Addr).add (l*esz))) (h'-l) (m-l)) w:=by
      rw [he];simp [Instr.sliceAt,run_underlying hu,Instr.sureAddr,hb,jX hs]
     by_cases hml:m=l
     .rw [aZ hml,cond_true] at hk;rw [if_pos hml] at hrun;exact .val hk (kZ hE (c:=m-l) (by show m-l=0;omega)) (by simp [hrun])
     .rw [aL hml,cond_false] at hk;rw [if_neg hml,jU] at hrun;exact .val hk (kZ hE (c:=m-l) rfl) (by simp [hrun])
theorem znm (F:FR E loc st tm a) {t:TypeId} (hu:P.underlying t=some .string) {x:Operand} {y:Arg} {lo hi:Option Operand} {lo' hi':Option Arg} (hx:zx loc st x=some y)
  (h1:tL loc st lo=some lo') (h2:tL loc st hi=some hi') (hk:(PO.zam y lo' hi').ev tm h K=.ok r) :
  Good P E w K r (do pure (.value (<- Instr.sliceAt t (a.eval x) (lo.map a.eval) (hi.map a.eval) none))):=by
 obtain ⟨s,hs,hk⟩:=pD hk;have v1:=zP F hx;rw [hs] at v1;rw [v1.og];cases hh:bnd (hi'.map (Arg.ev · tm)) s.length s.length with
 | none=>simp [hh] at hk
 | some h' =>
  cases hl:bnd (lo'.map (Arg.ev · tm)) h' 0 with
  | none=>simp [hh,hl] at hk
  | some l =>
   simp only [hh,hl] at hk;have hsz:(⟨s.toArray⟩:ByteArray).size=s.length:=by simp [ByteArray.size]
   have hb:=kI (P:=P) (w:=w) (isSl:=false) (uV F h1) (uV F h2) (show VO E none none from trivial) (by simp) (show bnd none s.length s.length=some s.length from rfl) hh hl;refine .val hk (v:=.string ((⟨s.toArray⟩:ByteArray).extract l h')) ?_ (by simp [Instr.sliceAt,run_underlying hu,Instr.slice,hsz,hb]);simp only [VR]
   congr 1
   apply ByteArray.ext;apply Array.ext';simp [ByteArray.data_extract,Array.toList_extract,List.extract_eq_take_drop]
theorem zzi (F:FR E loc st tm a) {t e ty:TypeId} {x:Operand} {y:Arg} {cs:Array Bool} {ts:Array TypeId} (hts:ts[0]? = some t) (he:P.underlying t=some (.slice e)) (hx:zx loc st x=some y)
  (hk:(PO.len y).ev tm h K=.ok r):Good P E w K r (builtin .len ts ty cs #[a.eval x]):=by
 have v1:=zP F hx
 have:∀ n:Nat,K (.int .i64 (.ofNat n))=.ok r->(Builtin.len_ ts ty #[a.eval x]).run P w=.ok (goInt n) w->Good P E w K r (builtin .len ts ty cs #[a.eval x]) :=
  λn q1 q2=>.mk q1 (v:=goInt n) uN (by simp [builtin,q2])
 rcases kX hk with ⟨id,off,ln,cap,e',hy,hk⟩ | ⟨hy,hk⟩ | ⟨hy,hk⟩ | ⟨s,hy,hk⟩ | ⟨e',n,l,hy,hk⟩
 case inr.inr.inr.inr =>
  rw [hy] at v1;obtain ⟨_,_,p,c,he',_⟩:=v1.aP;exact this n hk (by rw [he'];simp [Builtin.len_,hts,run_underlying he])
 .rw [hy] at v1;obtain ⟨b,n,c,_,he',_⟩:=v1.si;exact this ln hk (by rw [he'];simp [Builtin.len_,hts,run_underlying he])
 .rw [hy] at v1;have he':a.eval x=.slice none 0 0:=by simpa only [VR] using v1
  exact this 0 hk (by rw [he'];simp [Builtin.len_,hts,run_underlying he])
 .rw [hy] at v1;simp only [VR] at v1;obtain ⟨q,c,he'⟩:=v1;exact this 0 hk (by rw [he'];simp [Builtin.len_,hts,run_underlying he])
 .cases hk
theorem zuv (F:FR E loc st tm a) {t ty:TypeId} {x:Operand} {y:Arg} {cs:Array Bool} {ts:Array TypeId} (hts:ts[0]? = some t) (he:P.underlying t=some .string) (hx:zx loc st x=some y)
  (hk:(PO.slen y).ev tm h K=.ok r):Good P E w K r (builtin .len ts ty cs #[a.eval x]):=by
 obtain ⟨s,hy,hk⟩:=pD hk;have v1:=zP F hx;rw [hy] at v1;rw [y4] at hk;have hsz:(⟨s.toArray⟩:ByteArray).size=s.length:=by simp [ByteArray.size]
 exact .mk hk (v:=goInt s.length) uN (by rw [v1.og];simp [builtin,Builtin.len_,hts,run_underlying he,hsz])
theorem zuw (F:FR E loc st tm a) {t e ty:TypeId} {x:Operand} {y:Arg} {cs:Array Bool} {ts:Array TypeId} (hts:ts[0]? = some t) (he:P.underlying t=some (.slice e)) (hx:zx loc st x=some y)
  (hk:(PO.capz y).ev tm h K=.ok r):Good P E w K r (builtin .cap ts ty cs #[a.eval x]):=by
 have v1:=zP F hx;rcases kX hk with ⟨id,off,ln,cap,e',hy,hk⟩ | ⟨hy,hk⟩ | ⟨hy,hk⟩ | ⟨s,hy,hk⟩ | ⟨e',n,l,hy,hk⟩
 .cases hk
 .rw [hy] at v1;have he':a.eval x=.slice none 0 0:=by simpa only [VR] using v1
  exact .mk hk (v:=goInt 0) uN (by rw [he'];simp [builtin,Builtin.cap_,hts,run_underlying he])
 .cases hk
 .cases hk
 .cases hk
theorem zux (_:FR E loc st tm a) {t e ty:TypeId} {n:Nat} {x:Operand} {cs:Array Bool} {ts:Array TypeId} (hts:ts[0]? = some t) (he:P.underlying t=some (.array n e))
  (hk:(PO.mv (.c (.int .i64 n))).ev tm h K=.ok r):Good P E w K r (builtin .len ts ty cs #[a.eval x]) :=
 .mk hk (v:=goInt n) uN (by simp [builtin,Builtin.len_,hts,run_underlying he])
theorem HR.map (H:HR P B E h nx w) {id:Pa} {k:Nat} {l:List (AV×AV)} (hb:T.get .no id h=.map k l) :
  ∃ b n es,E id=some (b,n)/\w.heap[b]? = some (.map es k)/\l.length=k/\es.size=k/\∀ (i:Nat) (x y:AV),l[i]? = some (x,y)->∃ e,es[i]? = some e/\e.born=i/\VR E x e.key/\VR E y e.val:=by
 obtain ⟨b,n,o,h1,h2,h3⟩:=H.blk id (by rw [hb];intro e;cases e);rw [hb] at h3;obtain ⟨es,rfl,h4⟩:=h3;exact ⟨b,n,es,h1,h2,h4⟩
theorem zuy (F:FR E loc st tm a) (H:HR P B E h nx w) {t ty kt e:TypeId} {x:Operand} {y:Arg} {cs:Array Bool} {ts:Array TypeId} (hts:ts[0]? = some t) (hu:P.underlying t=some (.map kt e)) (hx:zx loc st x=some y)
  (hk:(PO.mlen y).ev tm h K=.ok r):Good P E w K r (builtin .len ts ty cs #[a.eval x]):=by
 have v1:=zP F hx;rcases cB hk with ⟨id,hy,hk⟩ | ⟨hy,hk⟩
 .obtain ⟨k,l,hb,hk⟩:=wD hk;rw [y4] at hk;rw [hy] at v1;obtain ⟨b,n,hE,he⟩:=v1.zab;obtain ⟨b',n',es,h1,h2,h3,h4,_⟩:=H.map hb;obtain ⟨rfl,rfl⟩:b=b'/\n=n':=by rw [hE] at h1;cases h1;exact ⟨rfl,rfl⟩
  refine .mk hk (v:=goInt k) uN ?_;rw [he];simp [builtin,Builtin.len_,hts,run_underlying hu,getObj,Sem.run,h2,h4]
 .rw [hy] at v1;have he:a.eval x=.map none:=by simpa only [VR] using v1
  refine .mk hk (v:=goInt 0) uN ?_;rw [he];simp [builtin,Builtin.len_,hts,run_underlying hu]
theorem qcz (F:FR E loc st tm a) {f:Nat} {cap:Array Operand} {ys:List Arg} (hc:xF loc st cap=some ys) (hk:(PO.fn f (.of f) ys).ev tm h K=.ok r) :
  Good P E w K r (do pure (.value (<- Instr.makeFunc (.func f) (#[].map a.eval) (cap.map a.eval)))):=by
 have hk:K (.fn f (.of f) (ys.map (Arg.ev · tm)))=.ok r:=hk;refine .val hk (v:=.func (.func f) #[] (cap.map a.eval)) ?_ (by simp [Instr.makeFunc]);simp only [VR];exact ⟨trivial,_,rfl,pE F hc⟩
theorem qc0 (F:FR E loc st tm a) {f:Nat} {first:Array Operand} {ys:List Arg} (hc:xF loc st first=some ys) (hk:(PO.bm f (.of f) ys).ev tm h K=.ok r) :
  Good P E w K r (do pure (.value (<- Instr.makeFunc (.func f) (first.map a.eval) (#[].map a.eval)))):=by
 have hk:K (.bm f (.of f) (ys.map (Arg.ev · tm)))=.ok r:=hk;refine .val hk (v:=.func (.func f) (first.map a.eval) #[]) ?_ (by simp [Instr.makeFunc]);simp only [VR];exact ⟨trivial,_,rfl,pE F hc⟩
end
end Go.Ev
namespace Go.Ev
open Go
section
variable {β:Type} {P:Program} {E:Env} {loc st:List Nat} {tm:Tm} {a:Act} {B:Nat} {h:T Blk} {nx:Pa} {w:World}
variable {K:AV->Out β} {r:β}
theorem cV {t:TypeId} {n:Nat} (hk:wM P t=some (.agg n)):∃ e k,P.underlying t=some (.array n e)/\P.underlying e=some (.int k)/\rA P e=some 1:=by
 unfold wM at hk;split at hk
 .cases hk
 .cases hk
 .cases hk
 .rename_i m e hu;split at hk
  .rename_i h1 h2;cases hk
   unfold isInt at h1;split at h1
   .rename_i k he;exact ⟨e,k,hu,he,h2⟩
   .cases h1
  .cases hk
 .cases hk
theorem znn {t:TypeId} {kk:KK} (hk:wM P t=some kk) (hp:∀ n,kk≠.agg n) {x y:AV} {u v:Value} (hx:VR E x u) (hy:VR E y v) {b:Bool} (hb:u6 kk x y=some b) :
  ∃ d,P.underlying t=some d/\Instr.sameNow d u v=some b:=by
 unfold wM at hk;cases hu:P.underlying t with
 | none=>simp [hu] at hk
 | some d =>
  refine ⟨d,rfl,?_⟩;have harr:∀ n e,d≠.array n e:=by
   intro n e hd;subst hd;simp only [hu] at hk;split at hk
   .cases hk;exact hp _ rfl
   .cases hk
  cases d <;> first | (exact absurd rfl (harr _ _)) | skip
  all_goals simp [hu] at hk
  all_goals subst hk
  all_goals cases x <;> first | (simp [u6] at hb;done) | skip
  all_goals cases y <;> first | (simp [u6] at hb;done) | skip
  all_goals simp only [VR] at hx hy
  all_goals subst hx
  all_goals subst hy
  .simp [u6] at hb;subst hb;rfl
  .rename_i k1 m k2 n;simp only [u6] at hb;cases hq:vB k1 k2 with
   | false=>simp [hq] at hb
   | true =>
    obtain rfl:=wL hq;simp [hq] at hb;subst hb;simp [Instr.sameNow]
  .rename_i s s';simp [u6] at hb;subst hb;have:j5 s s'=((⟨s.toArray⟩:ByteArray)==(⟨s'.toArray⟩:ByteArray)):=by
    rw [Zfa,xh,beq_toListBytes,ByteArray.toList_eq,ByteArray.toList_eq];simp
   rw [this];rfl
theorem zdn {t:TypeId} {kk:KK} (hk:wM P t=some kk) (hp:∀ n,kk≠.agg n) {d:TypeDesc} (hd:P.underlying t=some d) {x:AV} {u:Value} (hx:VR E x u):∀ (l:List (AV×AV)) (es:List MapEntry) (i:Nat),es.length=l.length ->
  (∀ (j:Nat) (p q:AV),l[j]? = some (p,q)->∃ e,es[j]? = some e/\VR E p e.key/\VR E q e.val)->∀ res,xD kk x l i=some res ->
   (res=none/\Instr.findNow d u es i=some none)\/∃ j v w',res=some (i+j,v)/\Instr.findNow d u es i=some (some (i+j,w'))/\VR E v w'/\j<l.length/\∃ p,l[j]? = some (p,v)/\u6 kk x p=some true
 | [],es,i,hl,_,res,h=>by
  simp [xD] at h;subst h;obtain rfl:es=[]:=by simpa using hl
  exact .inl ⟨rfl,rfl⟩
 |(p,q)::l,es,i,hl,hall,res,h=>by
  cases es with
  | nil=>simp at hl
  | cons e es =>
   obtain ⟨e',he,h1,h2⟩:=hall 0 p q (by simp);simp at he;subst he;simp only [xD] at h;cases hq:u6 kk x p with
   | none=>simp [hq] at h
   | some b =>
    obtain ⟨d',hd',hs⟩:=znn hk hp hx h1 hq;obtain rfl:d'=d:=Option.some.inj (hd'.symm.trans hd);cases b with
    | true =>
     simp [hq] at h;subst h;exact .inr ⟨0,q,e.val,rfl,by simp [Instr.findNow,hs],h2,by simp,p,by simp,hq⟩
    | false =>
     simp [hq] at h;rcases zdn hk hp hd hx l es (i+1) (by simpa using hl) (λj p' q' hj=>by simpa using hall (j+1) p' q' (by simpa using hj)) res h with ⟨r1,r2⟩ | ⟨j,v,w',r1,r2,r3,r4,p',r5,r6⟩
     .exact .inl ⟨r1,by simp [Instr.findNow,hs,r2]⟩
     .exact .inr ⟨j+1,v,w',by rw [r1];congr 2;omega,by simp only [Instr.findNow,hs,r2];congr 3;omega,r3,by simp;omega,p',by simpa using r5,r6⟩
theorem fP {t:TypeId} {n:Nat} (hk:wM P t=some (.agg n)) {x:AV} {u:Value} (hx:VR E x u) (hf:dX (.agg n) x=true):∀ (l:List (AV×AV)) (es:List MapEntry) (i:Nat),es.length=l.length ->
  (∀ (j:Nat) (p q:AV),l[j]? = some (p,q)->∃ e,es[j]? = some e/\VR E p e.key/\VR E q e.val)->∀ res,xD (.agg n) x l i=some res ->
   (res=none/\(Instr.findAsking t u es i).run P w=.ok none w)\/∃ j v w',res=some (i+j,v)/\(Instr.findAsking t u es i).run P w=.ok (some (i+j,w')) w/\VR E v w'/\j<l.length/\∃ p,l[j]? = some (p,v)/\u6 (.agg n) x p=some true
 | [],es,i,hl,_,res,h=>by
  simp [xD] at h;subst h;obtain rfl:es=[]:=by simpa using hl
  exact .inl ⟨rfl,rfl⟩
 |(p,q)::l,es,i,hl,hall,res,h=>by
  cases es with
  | nil=>simp at hl
  | cons e es =>
   obtain ⟨e',he,h1,h2⟩:=hall 0 p q (by simp);simp at he;subst he;simp only [xD] at h;cases hq:u6 (.agg n) x p with
   | none=>simp [hq] at h
   | some b =>
    have hs:(Op.equal t u e.key).run P w=.ok b w:=by
     cases x <;> first | (simp [u6] at hq;done) | skip
     cases p <;> first | (simp [u6] at hq;done) | skip
     simp only [u6] at hq;obtain ⟨el,k,g1,g2,g3⟩:=cV hk;obtain ⟨_,xs,e1,s1⟩:=hx.ak;obtain ⟨_,ys,e2,s2⟩:=h1.ak;rw [e1,e2];exact znk g1 g2 g3 s1 s2 (yM hf) hq
    cases b with
    | true =>
     simp [hq] at h;subst h;exact .inr ⟨0,q,e.val,rfl,by simp [Instr.findAsking,hs],h2,by simp,p,by simp,hq⟩
    | false =>
     simp [hq] at h;rcases fP hk hx hf l es (i+1) (by simpa using hl) (λj p' q' hj=>by simpa using hall (j+1) p' q' (by simpa using hj)) res h with ⟨r1,r2⟩ | ⟨j,v,w',r1,r2,r3,r4,p',r5,r6⟩
     .exact .inl ⟨r1,by simp [Instr.findAsking,hs,r2]⟩
     .exact .inr ⟨j+1,v,w',by rw [r1];congr 2;omega,by simp only [Instr.findAsking,Sem.run_bind,hs,Result.andThen_ok,Zds,if_false,r2];congr 3;omega,r3,by simp;omega,p',by simpa using r5,r6⟩
theorem wP {kk:KK} {k:AV} {l:List (AV×AV)} {r:Option (Nat×AV)} (h:kQ kk k l=some r):dX kk k=true:=by
 unfold kQ at h;cases hq:dX kk k with
 | true=>rfl
 | false=>simp [hq] at h
theorem zbu:∀ {l:List AV} {vs:List Value},VRL E l vs->vs.length=l.length
 | [],vs,h=>by simp only [VRL] at h;subst h;rfl
 | x::l,vs,h=>by
  simp only [VRL] at h;obtain ⟨v,vs',rfl,_,h2⟩:=h;simp [zbu h2]
theorem bV (d:Nat) (em:Bool) {e:TypeId} {k:IntKind} (he:P.underlying e=some (.int k)) (hs:(sizeOf e).run P w=.ok 1 w) (cs:Array Value):∀ (n i:Nat),i+n<=cs.size ->
  (forIn (List.range' i n) PUnit.unit (λi _=>do
   Instr.checkKey em (d+1) e (<- part e cs (i*(<- sizeOf e)))
   pure (ForInStep.yield PUnit.unit))).run P w=.ok PUnit.unit w
 | 0,i,_=>rfl
 | n+1,i,h=>by
  have hag:(isAgg e).run P w=.ok false w:=by rw [pL he]
  have p1:(part e cs i).run P w=.ok cs[i] w:=by simp [part,hag,Zhd (show i<cs.size by omega)]
  rw [List.range'_succ,List.forIn_cons];simp only [Sem.run_bind,hs,Result.andThen_ok,Zcn,p1];rw [show (Instr.checkKey em (d+1) e cs[i]).run P w=.ok () w by simp [Instr.checkKey,run_underlying he]];simp only [Result.andThen_ok,Sem.run_pure];exact bV d em he hs cs n (i+1) (by omega)
theorem kT {t:TypeId} {kk:KK} (hk:wM P t=some kk) {x:AV} {v:Value} (hx:VR E x v) (hf:dX kk x=true) (em:Bool):(Instr.checkKey em 10000 t v).run P w=.ok () w:=by
 cases kk with
 | agg n =>
  obtain ⟨el,k,g1,g2,g3⟩:=cV hk;cases x <;> first | (simp [dX] at hf;done) | skip
  obtain ⟨_,xs,e1,s1⟩:=hx.ak;subst e1;have hl:xs.size=n:=by
   have:=zbu s1;have h2:=yM hf;simpa [h2] using this
  have:=bV (P:=P) (w:=w) 9998 em g2 (jX g3 w) xs n 0 (by omega);rw [show (10000:Nat)=9999+1 from rfl,Instr.checkKey];simp only [Sem.run_bind,run_underlying g1,Result.andThen_ok];simp at this;simp [this]
 | _ =>
  unfold wM at hk;rw [show (10000:Nat)=9999+1 from rfl]
  generalize 9999=q
  cases hu:P.underlying t with
  | none=>simp [hu] at hk
  | some d =>
   have harr:∀ n e,d≠.array n e:=by
    intro n e hd;subst hd;simp only [hu] at hk;split at hk <;> cases hk
   cases d <;> first | (exact absurd rfl (harr _ _)) | skip
   all_goals simp [hu] at hk
   all_goals simp [Instr.checkKey,run_underlying hu]
theorem zbv {t:TypeId} {kk:KK} (hk:wM P t=some kk):∃ d,P.underlying t=some d:=by
 unfold wM at hk;cases hu:P.underlying t with
 | none=>simp [hu] at hk
 | some d=>exact ⟨d,rfl⟩
theorem zhm {n:Nat} {e:TypeId} {u:Value}:∀ (es:List MapEntry) (i:Nat),es≠[]->Instr.findNow (.array n e) u es i=none
 | [],_,h=>absurd rfl h
 | x::es,i,_=>by simp [Instr.findNow,Instr.sameNow]
theorem fN {t:TypeId} {kk:KK} (hk:wM P t=some kk) {x:AV} {u:Value} (hx:VR E x u) {l:List (AV×AV)} {es:Array MapEntry} (hl:es.size=l.length)
  (hall:∀ (j:Nat) (p q:AV),l[j]? = some (p,q)->∃ e,es[j]? = some e/\VR E p e.key/\VR E q e.val) {res:Option (Nat×AV)} (hf:kQ kk x l=some res) :
  (res=none/\(Instr.findKey t u es.toList).run P w=.ok none w)\/∃ j v w',res=some (j,v)/\(Instr.findKey t u es.toList).run P w=.ok (some (j,w')) w/\VR E v w'/\j<l.length/\∃ p,l[j]? = some (p,v)/\u6 kk x p=some true:=by
 have hfit:=wP hf;unfold kQ at hf;rw [hfit,cond_true] at hf;obtain ⟨d,hd⟩:=zbv hk;by_cases hag:∃ n,kk=.agg n
 .obtain ⟨n,rfl⟩:=hag;obtain ⟨el,k,g1,g2,g3⟩:=cV hk;have hsame:(Instr.findKey t u es.toList).run P w=(Instr.findAsking t u es.toList 0).run P w:=by
   cases hes:es.toList with
   | nil=>simp [Instr.findKey,run_underlying g1,Instr.findNow,Instr.findAsking]
   | cons e0 es0=>simp [Instr.findKey,run_underlying g1,zhm]
  rcases fP (P:=P) (w:=w) hk hx hfit l es.toList 0 (by simpa using hl) (λj p q hj=>by simpa using hall j p q hj) res hf with ⟨r1,r2⟩ | ⟨j,v,w',r1,r2,r3⟩
  .exact .inl ⟨r1,by rw [hsame,r2]⟩
  .exact .inr ⟨j,v,w',by simpa using r1,by rw [hsame,r2];simp,r3⟩
 have hp:∀ n,kk≠.agg n:=λn e=>hag ⟨n,e⟩;rcases zdn hk hp hd hx l es.toList 0 (by simpa using hl) (λj p q hj=>by simpa using hall j p q hj) res hf with ⟨r1,r2⟩ | ⟨j,v,w',r1,r2,r3⟩
 .exact .inl ⟨r1,by simp [Instr.findKey,run_underlying hd,r2]⟩
 .exact .inr ⟨j,v,w',by simpa using r1,by simp [Instr.findKey,run_underlying hd,r2],r3⟩
theorem zuz (F:FR E loc st tm a) (H:HR P B E h nx w) {t kt e:TypeId} {kk:KK} {z:AV} {ok:Bool} {m k:Operand} {m' k':Arg} (hu:P.underlying t=some (.map kt e)) (hkk:wM P kt=some kk) (hz:gR P e=some z)
  (hm:zx loc st m=some m') (hkey:zx loc st k=some k') (hk:(PO.look kk z ok m' k').ev tm h K=.ok r):Good P E w K r (do pure (.value (<- Instr.lookup t (a.eval m) (a.eval k) ok))):=by
 have v1:=zP F hm;have v2:=zP F hkey;obtain ⟨zv,hzr,hzv⟩:=kM (w:=w) (E:=E) hz;obtain ⟨d,hd⟩:=zbv hkk;have hmiss:∀ K':K (bif ok then .tup [z,.bool false] else z)=.ok r,∀ mv,(Instr.lookup t mv (a.eval k) ok).run P w=.ok (if ok then .tuple #[zv,.bool false] else zv) w->Good P E w K r (do pure (.value (<- Instr.lookup t mv (a.eval k) ok))):=by
  intro hk mv hr;refine .val hk (v:=if ok then .tuple #[zv,.bool false] else zv) ?_ hr;cases ok
  .exact hzv
  .exact dJ (VRL.cons hzv (VRL.cons u4 VRL.nil))
 rcases cB hk with ⟨id,hy,hk⟩ | ⟨hy,hk⟩
 .obtain ⟨n,l,hb,hk⟩:=wD hk;rw [hy] at v1;obtain ⟨b,nn,hE,he⟩:=v1.zab;obtain ⟨b',n',es,h1,h2,h3,h4,h5⟩:=H.map hb;obtain ⟨rfl,rfl⟩:b=b'/\nn=n':=by rw [hE] at h1;cases h1;exact ⟨rfl,rfl⟩
  rw [he];cases hf:kQ kk (k'.ev tm) l with
  | none=>simp [hf] at hk
  | some res =>
   rcases fN (P:=P) (w:=w) hkk v2 (es:=es) (by omega) (λj p q hj=>let ⟨e,q1,_,q2,q3⟩:=h5 j p q hj;⟨e,q1,q2,q3⟩) hf with ⟨rfl,r2⟩ | ⟨j,v,w',rfl,r2,r3,_⟩
   .simp only [hf] at hk;refine hmiss hk _ ?_;cases ok <;> simp [Instr.lookup,run_underlying hu,getObj,Sem.run,h2,kT hkk v2 (wP hf) _,r2,hzr]
   .simp only [hf] at hk;refine .val hk (v:=if ok then .tuple #[w',.bool true] else w') ?_ ?_
    .cases ok
     .exact r3
     .exact dJ (VRL.cons r3 (VRL.cons u4 VRL.nil))
    .cases ok <;> simp [Instr.lookup,run_underlying hu,getObj,Sem.run,h2,kT hkk v2 (wP hf) _,r2]
 .rw [hy] at v1;have he:a.eval m=.map none:=by simpa only [VR] using v1
  rw [he];obtain ⟨hft,hk⟩:=jD hk;refine hmiss hk _ ?_;have hf:(Instr.findKey kt (a.eval k) []).run P w=.ok none w:=by simp [Instr.findKey,run_underlying hd,Instr.findNow]
  have hfit:dX kk (k'.ev tm)=true:=hft;cases ok <;> simp [Instr.lookup,run_underlying hu,kT hkk v2 hfit _,hf,hzr]
theorem zls:∀ {l:List AV} {s:List UInt8} {vs:List Value},b2sA l=some s->VRL E l vs->∃ ns:List Int,vs=ns.map (Value.int .u8)/\s=ns.map λn=>UInt8.ofNat n.toNat
 | [],s,vs,h,hv=>by
  simp [b2sA] at h;subst h;simp only [VRL] at hv;subst hv;exact ⟨[],rfl,rfl⟩
 | x::l,s,vs,h,hv=>by
  simp only [VRL] at hv;obtain ⟨v,m,rfl,h1,h2⟩:=hv;unfold b2sA at h;split at h
  .rename_i heq;cases heq
  .rename_i n l' heq;cases heq
   cases hq:b2sA l with
   | none=>simp [hq] at h
   | some s' =>
    simp [hq] at h;subst h;obtain ⟨ns,r1,r2⟩:=zls hq h2;exact ⟨n::ns,by rw [h1.xw,r1];rfl,by rw [r2];rfl⟩
  .cases h
theorem foldl_push (ns:List Int) (s:List UInt8):ns.foldl (λ(r:ByteArray) n=>r.push (UInt8.ofNat n.toNat)) ⟨s.toArray⟩=⟨(s++ns.map λn=>UInt8.ofNat n.toNat).toArray⟩:=by
 induction ns generalizing s with
 | nil=>simp
 | cons n ns ih =>
  rw [Zco,show (ByteArray.push ⟨s.toArray⟩ (UInt8.ofNat n.toNat))=⟨(s++[UInt8.ofNat n.toNat]).toArray⟩ by apply ByteArray.ext;simp [ByteArray.push],ih];simp
theorem zzj (F:FR E loc st tm a) (H:HR P B E h nx w) {s t e:TypeId} (hs:P.underlying s=some (.slice e)) (he:P.underlying e=some (.int .u8)) (ht:P.underlying t=some .string) {x:Operand} {y:Arg} (hx:zx loc st x=some y)
  (hk:(PO.b2s y).ev tm h K=.ok r):Good P E w K r (do pure (.value (<- convert s t (a.eval x)))):=by
 have v1:=zP F hx;rcases kX hk with ⟨id,off,ln,cap,e',hy,hk⟩ | ⟨hy,hk⟩ | ⟨hy,hk⟩ | ⟨s,hy,hk⟩ | ⟨_,_,_,_,hk⟩
 .obtain ⟨op,m,c,hb,hk⟩:=uF hk;obtain ⟨hle,hk⟩:=jD hk;rw [hy] at v1;obtain ⟨b,n,cc,hE,he',_⟩:=v1.si;rw [he'];cases hq:b2sA (yR c off ln) with
  | none=>simp [hq] at hk
  | some bs =>
   simp only [hq] at hk;obtain ⟨vs,q1,q2,q3,_⟩:=H.range hb hE (off:=off) (s:=ln) (yG hle);obtain ⟨ns,r1,r2⟩:=zls hq q3;have hl:=run_loadCells_list (P:=P) w ⟨b,off,none⟩ vs q2;rw [q1,r1] at hl;have hrun:=run_bytesToString (P:=P) w ⟨b,off,none⟩ ln cc ns hl;have qc7:=foldl_push ns [];refine .val hk (v:=.string ⟨bs.toArray⟩) zke ?_;have h0:(ByteArray.empty:ByteArray)=⟨([]:List UInt8).toArray⟩:=rfl;rw [h0,qc7,Zbf,<- r2] at hrun;simp [convert,run_underlying hs,run_underlying ht,run_underlying he,hrun]
 .rw [hy] at v1;have he':a.eval x=.slice none 0 0:=by simpa only [VR] using v1
  rw [he'];refine .val hk (v:=.string ⟨([]:List UInt8).toArray⟩) zke ?_;simp [convert,run_underlying hs,run_underlying ht,run_underlying he,Conv.bytesToString]
  rfl
 .cases hk
 .cases hk
 .cases hk
theorem zhn (mx:Bool):∀ (xs:List AV) (vs:List Value) (x y:AV) (v:Value),VRL E xs vs->VR E x v->minA mx x xs=some y->∃ u,VR E y u/\(vs.foldlM (if mx then Builtin.max2 else Builtin.min2) v).run P w=.ok u w
 | [],vs,x,y,v,h1,h2,h3=>by
  simp [minA] at h3;subst h3;simp only [VRL] at h1;subst h1;exact ⟨v,h2,by simp⟩
 | z::xs,vs,x,y,v,h1,h2,h3=>by
  simp only [VRL] at h1;obtain ⟨u,m,rfl,q1,q2⟩:=h1;cases x <;> first | (simp [minA] at h3;done) | skip
  cases z <;> first | (simp [minA] at h3;done) | skip
  rename_i k p k' q;simp only [minA] at h3;cases hkk:vB k k' with
  | false=>simp [hkk] at h3
  | true =>
   obtain rfl:=wL hkk;simp only [hkk,cond_true] at h3;obtain ⟨u',r1,r2⟩:=zhn mx xs m _ y (.int k (bif (bif mx then ilt p q else ilt q p) then q else p)) q2 uN h3;refine ⟨u',r1,?_⟩;rw [h2.xw,q1.xw,List.foldlM_cons,Sem.run_bind];have:((if mx then Builtin.max2 else Builtin.min2) (.int k p) (.int k q)).run P w=.ok (.int k (bif (bif mx then ilt p q else ilt q p) then q else p)) w:=by
    cases mx
    .simp only [Zds,if_false,Builtin.min2,cond_false,xL];by_cases hlt:q<p <;> simp [hlt]
    .simp only [if_true,Builtin.max2,cond_true,xL];by_cases hlt:p<q <;> simp [hlt,gt_iff_lt]
   rw [this];exact r2
theorem zq9 (F:FR E loc st tm a) {ty:TypeId} {ts:Array TypeId} {cs:Array Bool} {x:Operand} {xs:List Operand} {y:Arg} {ys:List Arg} (hx:zx loc st x=some y) (hxs:xs.mapM (zx loc st)=some ys) {mx:Bool}
  (hk:(PO.zan mx y ys).ev tm h K=.ok r):Good P E w K r (builtin (if mx then .max else .min) ts ty cs ((x::xs).map a.eval).toArray):=by
 have hk:(match minA mx (y.ev tm) (ys.map (Arg.ev · tm)) with | some v=>K v | none=>.no 22)=.ok r:=hk;cases hq:minA mx (y.ev tm) (ys.map (Arg.ev · tm)) with
 | none=>simp [hq] at hk
 | some z =>
  simp only [hq] at hk;obtain ⟨u,r1,r2⟩:=zhn (P:=P) (w:=w) mx _ _ _ _ _ (mU F hxs) (zP F hx) hq;refine .mk hk r1 ?_;cases mx
  .simpa [builtin,Builtin.min_] using congrArg (λq=>q.andThen λv w'=>Result.ok (Next.value v) w') r2
  .simpa [builtin,Builtin.max_] using congrArg (λq=>q.andThen λv w'=>Result.ok (Next.value v) w') r2
theorem HR.iter (H:HR P B E h nx w) {id mid:Pa} {k c:Nat} {seen:List Nat} (hb:T.get .no id h=.iter mid k seen c) :
  ∃ b n bm nm,E id=some (b,n)/\E mid=some (bm,nm)/\w.heap[b]? = some (.mapIter (some bm) k seen.reverse.toArray c)/\k<=c:=by
 obtain ⟨b,n,o,h1,h2,h3⟩:=H.blk id (by rw [hb];intro e;cases e);rw [hb] at h3;obtain ⟨bm,nm,h4,rfl,h5⟩:=h3;exact ⟨b,n,bm,nm,h1,h4,h2,h5⟩
theorem zfo {es:Array MapEntry} {l:List (AV×AV)} (h:∀ (i:Nat) (a b:AV),l[i]? = some (a,b)->∃ e,es[i]? = some e/\e.born=i/\VR E a e.key/\VR E b e.val) (hl:es.size=l.length) {i:Nat} {e:MapEntry} (he:es[i]? = some e) :
  es.find? (·.born==i)=some e:=by
 have hborn:∀ (j:Nat) (e':MapEntry),es[j]? = some e'->e'.born=j:=by
  intro j e' hj;have hjl:j<l.length:=by
   obtain ⟨hlt,_⟩:=Zgy.1 hj;omega
  obtain ⟨e2,q1,q2,_⟩:=h j l[j].1 l[j].2 (by rw [Zgu hjl]);rw [hj] at q1;cases q1;exact q2
 have hi:=hborn i e he;rw [Array.find?_eq_some_iff_getElem];obtain ⟨hlt,hge⟩:=Zgy.1 he;refine ⟨by simp [hi],i,hlt,hge,λj hj => ?_⟩;have:=hborn j es[j] (Zhd (by omega));simp only [Bool.not_eq_true',beq_eq_false_iff_ne,ne_eq,this];omega
theorem zra (F:FR E loc st tm a) (H:HR P B E h nx w) {x:Operand} {x':Arg} (hx:zx loc st x=some x') (hk:(PO.entry x').ev tm h K=.ok r):Good P E w K r (do pure (.value (<- Instr.entry (a.eval x)))):=by
 have v1:=zP F hx;rcases qO hk with ⟨id,off,hy,hk⟩ | ⟨_,_,hk⟩
 case inr=>cases hk
 obtain ⟨ho,hk⟩:=jD hk;obtain rfl:=yM ho;obtain ⟨mid,n,seen,c,hb,hk⟩:=zc8 hk;obtain ⟨k,l,hm,hk⟩:=wD hk;rw [hy] at v1;obtain ⟨b,m,hE,he⟩:=v1.tX;obtain ⟨b',n',bm,nm,g1,g2,g3,g4⟩:=H.iter hb;obtain ⟨rfl,rfl⟩:b=b'/\m=n':=by rw [hE] at g1;cases g1;exact ⟨rfl,rfl⟩
 obtain ⟨bm',nm',es,h1,h2,h3,h4,h5⟩:=H.map hm;obtain ⟨rfl,rfl⟩:bm=bm'/\nm=nm':=by rw [g2] at h1;cases h1;exact ⟨rfl,rfl⟩
 cases seen with
 | nil=>cases hk
 | cons i seen =>
  have hk:(bif Nat.beq c k then (match l[i]? with | some (a,b)=>K (.tup [a,b]) | none=>.no 54) else .no 54)=.ok r:=hk;obtain ⟨hc,hk⟩:=jD hk;have hc:=yM hc;cases hl:l[i]? with
  | none=>rw [hl] at hk;cases hk
  | some p =>
   obtain ⟨u,v⟩:=p;rw [hl] at hk;obtain ⟨e,q1,q2,q3,q4⟩:=h5 i u v hl;have hf:=zfo h5 (by omega) q1;refine .val hk (v:=.tuple #[e.key,e.val]) (dJ (VRL.cons q3 (VRL.cons q4 VRL.nil))) ?_;rw [he];have hback:((i::seen).reverse.toArray).back? = some i:=by simp
   subst hc;simp only [Instr.entry,getObj,Sem.run_bind,Sem.run,g3,h2,Result.andThen,hback,bne_self_eq_false,Zds,if_false,hf]
   rfl
end
end Go.Ev
namespace Go.Ev
open Go
section
variable {β:Type} {P:Program} {E:Env} {loc st:List Nat} {tm:Tm} {a:Act} {B:Nat} {h:T Blk} {nx:Pa} {w:World}
variable {K:AV->Out β} {r:β}
theorem Good.of_run {s s':Sem Next} (hg:Good P E w K r s) (he:s'.run P w=s.run P w):Good P E w K r s' :=
 let ⟨av,v,q1,q2,q3⟩:=hg;⟨av,v,q1,q2,he.trans q3⟩
theorem bO {ρ:Operand->Value} {o:Oper} {b:Builtin} {args:Array Operand} {ts:Array TypeId} (ho:o.op=.call { callee:=.builtin b,args:=args,argTypes:=ts }) :
  execOp ρ o=builtin b ts o.type (args.map λ| .const _=>true | _=>false) (args.map ρ):=by
 unfold execOp;rw [ho]
 rfl
theorem gQ {α:Type} {x:Array α} {l:List α} (h:x.toList=l):x=l.toArray:=by rw [<- h]
theorem zg5 (F:FR E loc st tm a) (H:HR P B E h nx w) {o:Oper} {op:PO} (hc:poA P loc st o.op=some op) (hk:op.ev tm h K=.ok r):Good P E w K r (execOp a.eval o):=by
 cases ho:o.op
 case move x =>
  rw [ho] at hc;simp only [poA,Zax] at hc;obtain ⟨y,hy,rfl⟩:=hc;exact (zxn F hy hk).of_run (by unfold execOp;rw [ho])
 case assign x =>
  rw [ho] at hc;simp only [poA,Zax] at hc;obtain ⟨y,hy,rfl⟩:=hc;exact (zxn F hy hk).of_run (by unfold execOp;rw [ho])
 case pick c x y =>
  rw [ho] at hc;simp only [poA] at hc;split at hc
  .cases hc;exact (zur F (by assumption) (by assumption) (by assumption) hk).of_run (by unfold execOp;rw [ho])
  .cases hc
 case build t ps =>
  rw [ho] at hc;simp only [poA] at hc;split at hc
  .split at hc
   .rename_i z fs hz hu _ _ zl ps' hq hp;cases hc
    cases hall:fs.toList.all (λf=>(P.info? f.type).isSome) with
    | false=>rw [hall,cond_false] at hq;cases hq
    | true =>
     rw [hall,cond_true] at hq;exact (zne F hz hq hu hall hp hk).of_run (by unfold execOp;rw [ho])
   .cases hc
  .split at hc
   .rename_i z e _ hz hu _ s hs;split at hc
    .cases hc;exact (znf F hz (by assumption) hu hs (by assumption) hk).of_run (by unfold execOp;rw [ho])
    .cases hc
   .cases hc
  .cases hc
 case field t x i =>
  rw [ho] at hc;simp only [poA] at hc;split at hc
  .split at hc
   .rename_i fs x' hu hx _ f hf;simp only [Zax] at hc;obtain ⟨s,hs,rfl⟩:=hc;exact (zq0 F hu hf hs hx hk).of_run (by unfold execOp;rw [ho])
   .cases hc
  .cases hc
 case extract x i =>
  rw [ho] at hc;simp only [poA,Zax] at hc;obtain ⟨y,hy,rfl⟩:=hc;exact (zzf F hy hk).of_run (by unfold execOp;rw [ho])
 case binOp op' t x y t' =>
  rw [ho] at hc;simp only [poA] at hc;split at hc
  .rename_i x' y' hx hy;split at hc
   .cases hc;exact (znh F hx hy hk).of_run (by unfold execOp;rw [ho])
   .cases hc;exact (zni F hx hy hk).of_run (by unfold execOp;rw [ho])
   .cases hc;exact (zkg F (by assumption) hx hy hk).of_run (by unfold execOp;rw [ho])
   .cases hc;exact (pR F (d:=.slice _) (by assumption) rfl hx hy hk).of_run (by unfold execOp;rw [ho])
   .cases hc;exact (pR F (d:=.map _ _) (by assumption) rfl hx hy hk).of_run (by unfold execOp;rw [ho])
   .cases hc;exact (pR F (d:=.func _ _ _) (by assumption) rfl hx hy hk).of_run (by unfold execOp;rw [ho])
   .cases hc;exact (pR F (d:=.pointer _) (by assumption) rfl hx hy hk).of_run (by unfold execOp;rw [ho])
   .cases hc
  .cases hc
 case unOp op' t x =>
  rw [ho] at hc;simp only [poA] at hc;split at hc
  .cases hc;exact (zzg F (by assumption) hk).of_run (by unfold execOp;rw [ho])
  .cases hc;exact (zzh F (by assumption) hk).of_run (by unfold execOp;rw [ho])
  .cases hc
 case convert s t x =>
  rw [ho] at hc;simp only [poA] at hc;split at hc
  .rename_i x' hx;split at hc
   .rename_i h1 h2;cases hc;exact (zut F h1 h2 hx hk).of_run (by unfold execOp;rw [ho])
   .rename_i e h1 h2;split at hc
    .cases hc;exact (zzj F H h1 (by assumption) h2 hx hk).of_run (by unfold execOp;rw [ho])
    .cases hc
   .cases hc
  .cases hc
 case load t x =>
  rw [ho] at hc;simp only [poA] at hc;split at hc
  .cases hc;exact (zlj F H (by assumption) (by assumption) hk).of_run (by unfold execOp;rw [ho])
  .cases hc;exact (zg7 F H (by assumption) (by assumption) hk).of_run (by unfold execOp;rw [ho])
  .cases hc
 case makeFunc fn first cap =>
  rw [ho] at hc;cases fn <;> simp only [poA] at hc <;> first | (cases hc;done) | skip
  split at hc
  .cases hc
   have hf:first.size=0:=by assumption
   obtain rfl:first = #[]:=by simpa using hf
   exact (qcz F (by assumption) hk).of_run (by unfold execOp;rw [ho])
  .rename_i hcap;simp only [Zax] at hc;obtain ⟨ys,hys,rfl⟩:=hc;obtain rfl:cap = #[]:=by
    have hq:cap.toList.mapM (zx loc st)=some []:=hcap;obtain ⟨l⟩:=cap;cases l with
    | nil=>rfl
    | cons y l=>cases h1:zx loc st y <;> cases h2:l.mapM (zx loc st) <;> simp [h1,h2] at hq
   exact (qc0 F hys hk).of_run (by unfold execOp;rw [ho])
  .cases hc
 case slice t x lo hi mx =>
  rw [ho] at hc;simp only [poA] at hc;split at hc
  .rename_i x' lo' hi' hu hx h1 h2 h3;cases hc
   have hmx:mx=none:=by
    cases mx with
    | none=>rfl
    | some q=>simp only [tL] at h3;cases hq:zx loc st q <;> simp [hq] at h3
   subst hmx;exact (znm F hu hx h1 h2 hk).of_run (by unfold execOp;rw [ho];rfl)
  .rename_i e x' lo' hi' mx' hu hx h1 h2 h3;simp only [Zax] at hc;obtain ⟨s,hs,rfl⟩:=hc;exact (zq8 F hu hs hx h1 h2 h3 hk).of_run (by unfold execOp;rw [ho])
  .rename_i n e x' lo' hi' mx' hu hx h1 h2 h3;simp only [Zax] at hc;obtain ⟨s,hs,rfl⟩:=hc;exact (znl F hu hs hx h1 h2 h3 hk).of_run (by unfold execOp;rw [ho])
  .cases hc
 case fieldAddr t x i =>
  rw [ho] at hc;simp only [poA] at hc;split at hc
  .split at hc
   .split at hc
    .cases hc;exact (zq1 F (by assumption) (by assumption) (by assumption) (by assumption) hk).of_run (by unfold execOp;rw [ho])
    .cases hc
   .cases hc
  .cases hc
 case indexAddr t x i =>
  rw [ho] at hc;simp only [poA] at hc;split at hc
  .rename_i x' i' hx hi;split at hc
   .rename_i n e hu;simp only [Zax] at hc;obtain ⟨s,hs,rfl⟩:=hc;exact (zq3 F hu hs hx hi hk).of_run (by unfold execOp;rw [ho])
   .rename_i e hu;simp only [Zax] at hc;obtain ⟨s,hs,rfl⟩:=hc;exact (zq2 F hu hs hx hi hk).of_run (by unfold execOp;rw [ho])
   .cases hc
  .cases hc
 case index t x i =>
  rw [ho] at hc;simp only [poA] at hc;split at hc
  .rename_i x' i' hx hi;split at hc
   .cases hc;exact (zuu F (by assumption) hx hi hk).of_run (by unfold execOp;rw [ho])
   .cases hc
  .cases hc
 case entry x =>
  rw [ho] at hc;simp only [poA,Zax] at hc;obtain ⟨y,hy,rfl⟩:=hc;exact (zra F H hy hk).of_run (by unfold execOp;rw [ho])
 case lookup t m k ok =>
  rw [ho] at hc;simp only [poA] at hc;split at hc
  .split at hc
   .split at hc
    .cases hc;exact (zuz F H (by assumption) (by assumption) (by assumption) (by assumption) (by assumption) hk).of_run (by unfold execOp;rw [ho])
    .cases hc
   .cases hc
  .cases hc
 case call c =>
  rw [ho] at hc;obtain ⟨callee,args,ts⟩:=c;cases callee <;> simp only [poA] at hc <;> first | (cases hc;done) | skip
  rename_i b;have hex:=bO (ρ:=a.eval) ho;split at hc
  .rename_i x hargs;obtain rfl:=gQ hargs;have hb:∀ {d},(ts[0]?).bind P.underlying=some d->∃ t,ts[0]? = some t/\P.underlying t=some d:=λ{d} hq=>by
    cases ht:ts[0]? with
    | none=>simp [ht] at hq
    | some t=>exact ⟨t,rfl,by simpa [ht] using hq⟩
   split at hc
   .rename_i hx hq;obtain ⟨t,h1,h2⟩:=hb hq;cases hc;exact (zuv F (ts:=ts) (ty:=o.type) (cs := #[]) h1 h2 hx hk).of_run (by rw [hex];simp [builtin])
   .rename_i hx hq;obtain ⟨t,h1,h2⟩:=hb hq;cases hc;exact (zzi F (ts:=ts) (ty:=o.type) (cs := #[]) h1 h2 hx hk).of_run (by rw [hex];simp [builtin])
   .rename_i hx hq;obtain ⟨t,h1,h2⟩:=hb hq;cases hc;exact (zuy F H (ts:=ts) (ty:=o.type) (cs := #[]) h1 h2 hx hk).of_run (by rw [hex];simp [builtin])
   .rename_i hq;obtain ⟨t,h1,h2⟩:=hb hq;cases hc;exact (zux F (x:=x) (ts:=ts) (ty:=o.type) (cs := #[]) h1 h2 hk).of_run (by rw [hex];simp [builtin])
   .cases hc
  .rename_i x hargs;obtain rfl:=gQ hargs;have hb:∀ {d},(ts[0]?).bind P.underlying=some d->∃ t,ts[0]? = some t/\P.underlying t=some d:=λ{d} hq=>by
    cases ht:ts[0]? with
    | none=>simp [ht] at hq
    | some t=>exact ⟨t,rfl,by simpa [ht] using hq⟩
   split at hc
   .rename_i hx hq;obtain ⟨t,h1,h2⟩:=hb hq;cases hc;exact (zuw F (ts:=ts) (ty:=o.type) (cs := #[]) h1 h2 hx hk).of_run (by rw [hex];simp [builtin])
   .cases hc
  .rename_i x xs hargs;obtain rfl:=gQ hargs;split at hc
   .cases hc;exact (zq9 F (mx:=false) (ts:=ts) (ty:=o.type) (cs := #[]) (by assumption) (by assumption) hk).of_run (by rw [hex];simp [builtin])
   .cases hc
  .rename_i x xs hargs;obtain rfl:=gQ hargs;split at hc
   .cases hc;exact (zq9 F (mx:=true) (ts:=ts) (ty:=o.type) (cs := #[]) (by assumption) (by assumption) hk).of_run (by rw [hex];simp [builtin])
   .cases hc
  .cases hc
 all_goals
  rw [ho] at hc;cases hc
end
end Go.Ev
