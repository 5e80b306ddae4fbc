import Derived.CallsIn
import Derived.OrdersIn
set_option linter.unusedSimpArgs false
set_option linter.unusedVariables false
noncomputable section
namespace Go.Ev
abbrev Zaa := @List.getD_eq_getElem?_getD
abbrev Zab := @decide_eq_false
abbrev Zac := @decide_eq_true
abbrev Zad := @List.mem_of_getElem?
abbrev Zae := @List.length_append
abbrev Zaf := @Nat.le_refl
abbrev Zag := @Nat.ble_eq_true_of_le
abbrev Zah := @List.length_take
abbrev Zai := @List.length_map
abbrev Zaj := @List.mem_cons_self
abbrev Zak := @Bool.and_eq_true
abbrev Zal := @Bool.not_false
abbrev Zam := @List.take_of_length_le
abbrev Zan := @List.length_set
abbrev Zao := @List.mem_cons_of_mem
abbrev Zap := @Bool.not_true
abbrev Zaq := @List.mem_cons
abbrev Zar := @List.take_add_one
abbrev Zas := @List.mem_map
abbrev Zat := @List.mem_singleton
abbrev Zau := @List.getElem_mem
abbrev Zav := @List.mem_iff_getElem?
abbrev Zaw := @List.mem_append
abbrev Zax := @Nat.mul_le_mul_right
abbrev Zay := @Nat.le_trans
abbrev Zaz := @List.all_eq_true
abbrev Zba := @List.length_replicate
abbrev Zbb := @Option.map_eq_some_iff
abbrev Zbc := @List.mem_range
abbrev Zbd := @List.length_cons
abbrev Zbe := @List.mem_or_eq_of_mem_set
abbrev Zbf := @Nat.add_mul
abbrev Zbg := @Rat.mul_zero
abbrev Zbh := @List.length_singleton
abbrev Zbi := @List.append_nil
abbrev Zbj := @List.drop_eq_getElem_cons
abbrev Zbk := @Nat.mul_le_mul
abbrev Zbl := @Nat.zero_add
abbrev Zbm := @Rat.zero_mul
abbrev Zbn := @Option.toList_some
abbrev Zbo := @List.nil_append
abbrev Zbp := @List.map_append
abbrev Zbq := @Int.natAbs_natCast
abbrev Zbr := @List.length_reverse
abbrev Zbs := @List.drop_of_length_le
abbrev Zbt := @List.mem_of_mem_take
abbrev Zbu := @List.append_assoc
abbrev Zbv := @Nat.beq_refl
abbrev Zbw := @Array.getD_eq_getD_getElem?
abbrev Zbx := @List.cons_append
abbrev Zby := @List.mem_filter
abbrev Zbz := @List.mem_flatMap
abbrev Zca := @List.ext_getElem?
abbrev Zcb := @Rat.num_eq_zero
abbrev Zcc := @Int.natAbs_mul
abbrev Zcd := @Nat.sub_self
abbrev Zce := @Nat.min_eq_left
abbrev Zcf := @Nat.lt_irrefl
abbrev Zcg := @Nat.mod_eq_of_lt
abbrev Zch := @List.length_drop
abbrev Zci := @List.eq_nil_of_length_eq_zero
abbrev Zcj := @Nat.lt_of_lt_of_le
abbrev Zck := @List.mapM_cons
abbrev Zcl := @Rat.intCast_mul
abbrev Zcm := @Nat.mul_comm
abbrev Zcn := @List.filter_cons
abbrev Zco := @Nat.mul_one
abbrev Zcp := @Nat.add_sub_cancel_left
abbrev Zcq := @List.length_eq_zero_iff
abbrev Zcr := @Array.toArray_toList
abbrev Zcs := @Nat.lt_of_le_of_lt
abbrev Zct := @Rat.intCast_neg
abbrev Zcu := @Int.mul_le_mul_of_nonneg_right
abbrev Zcv := @Nat.one_mul
abbrev Zcw := @List.ext_getElem
abbrev Zcx := @List.nodup_append
abbrev Zcy := @List.append_of_mem
abbrev Zcz := @List.take_length
abbrev Zda := @Nat.add_assoc
abbrev Zdb := @Nat.lt_or_ge
abbrev Zdc := @List.flatMap_cons
abbrev Zdd := @List.length_range
abbrev Zde := @List.length_mapIdx
abbrev Zdf := @List.mem_append_left
abbrev Zdg := @List.drop_zero
abbrev Zdh := @Nat.pow_le_pow_right
abbrev Zdi := @Bool.or_eq_true
abbrev Zdj := @List.filter_sublist
abbrev Zdk := @List.set_eq_take_append_cons_drop
abbrev Zdl := @List.perm_append_singleton
abbrev Zdm := @List.take_zero
abbrev Zdn := @List.pairwise_iff_getElem
abbrev Zdo := @Option.map_some
abbrev Zdp := @Nat.add_comm
abbrev Zdq := @Nat.div_le_self
abbrev Zdr := @Int.mul_le_mul_of_nonneg_left
abbrev Zds := @Nat.mul_le_mul_left
abbrev Zdt := @List.length_zipWith
abbrev Zdu := @List.perm_middle
abbrev Zdv := @Nat.mul_lt_mul''
abbrev Zdw := @List.nodup_range
abbrev Zdx := @List.nodup_cons
abbrev Zdy := @List.mem_append_right
abbrev Zdz := @List.foldl_cons
abbrev Zea := @List.map_cons
abbrev Zeb := @Int.natAbs_add_le
abbrev Zec := @Int.mul_nonneg_of_nonpos_of_nonpos
abbrev Zed := @Nat.mod_lt
abbrev Zee := @Int.ofNat_eq_natCast
abbrev Zef := @Nat.zero_le
abbrev Zeg := @Int.natAbs_neg
abbrev Zeh := @Nat.le_of_not_lt
abbrev Zei := @Nat.pow_succ
abbrev Zej := @Nat.div_eq_of_lt
abbrev Zek := @Bool.false_eq_true
abbrev Zel := @Rat.num_intCast
abbrev Zem := @Nat.mul_add
abbrev Zen := @List.filter_congr
abbrev Zeo := @Nat.add_zero
abbrev Zep := @List.take_append_drop
abbrev Zeq := @Nat.testBit_or
abbrev Zer := @Nat.zero_mul
abbrev Zes := @List.set_append_right
abbrev Zet := @List.map_set
abbrev Zeu := @Rat.add_zero
abbrev Zev := @Bool.or_eq_false_iff
abbrev Zew := @List.reverse_reverse
abbrev Zex := @List.pairwise_append
abbrev Zey := @Nat.mul_assoc
abbrev Zez := @Int.tdiv_eq_ediv_of_nonneg
abbrev Zfa := @Int.tmod_eq_emod_of_nonneg
abbrev Zfb := @List.nodup_iff_pairwise_ne
abbrev Zfc := @Rat.div_def
abbrev Zfd := @List.replicate_succ
abbrev Zfe := @List.length_nil
abbrev Zff := @Bool.eq_iff_iff
abbrev Zfg := @Rat.den_intCast
abbrev Zfh := @Rat.intCast_add
abbrev Zfi := @List.of_mem_zip
abbrev Zfj := @Nat.pos_of_ne_zero
abbrev Zfk := @Nat.gcd_comm
abbrev Zfl := @Rat.sub_eq_add_neg
abbrev Zfm := @List.set_cons_succ
abbrev Zfn := @Rat.mul_comm
abbrev Zfo := @Int.pow_nonneg
abbrev Zfp := @Option.bind_eq_some_iff
abbrev Zfq := @Bool.eq_false_iff
abbrev Zfr := @Nat.lt_succ_of_lt
abbrev Zfs := @List.pairwise_map
abbrev Zft := @Rat.neg_num
abbrev Zfu := @List.zipWith_cons_cons
abbrev Zfv := @List.map_take
abbrev Zfw := @List.any_eq_true
abbrev Zfx := @Array.all_eq_true_iff_forall_mem
abbrev Zfy := @List.not_mem_nil
abbrev Zfz := @Int.gcd_dvd_left
abbrev Zga := @List.length_filter_le
abbrev Zgb := @List.all_append
abbrev Zgc := @Int.natCast_pos
abbrev Zgd := @Rat.zero_add
abbrev Zge := @List.map_congr_left
abbrev Zgf := @List.zipWith_append
abbrev Zgg := @Int.natAbs_mul_self
abbrev Zgh := @List.getElem_of_mem
abbrev Zgi := @List.drop_drop
abbrev Zgj := @Int.mul_nonneg
abbrev Zgk := @Int.le_refl
abbrev Zgl := @Nat.eq_zero_or_pos
abbrev Zgm := @List.set_cons_zero
abbrev Zgn := @Nat.gcd_zero_right
abbrev Zgo := @Int.tmod_lt_of_pos
abbrev Zgp := @List.all_cons
abbrev Zgq := @Bool.or_false
abbrev Zgr := @Bool.and_true
abbrev Zgs := @Int.toNat_natCast
abbrev Zgt := @Int.gcd_dvd_right
abbrev Zgu := @List.foldl_append
abbrev Zgv := @Nat.le_succ_of_le
abbrev Zgw := @Nat.lt_trichotomy
open Go
inductive Pa where
 | z | l (p:Pa) | r (p:Pa)
def Pa.succ (p:Pa):Pa:=Pa.rec (.l .z) (λp _=>.r p) (λ_ ih=>.l ih) p
def Pa.toNat:Pa->Nat
 | .z=>0
 | .l p=>2*p.toNat+1
 | .r p=>2*p.toNat+2
def Pa.zah (d:Nat):Nat->Pa :=
 Nat.rec (motive:=λ_=>Nat->Pa) (λ_=>.z) (λ_ ih n=>bif Nat.beq n 0 then .z else bif Nat.beq (Nat.mod n 2) 1 then .l (ih (Nat.div n 2)) else .r (ih (Nat.sub (Nat.div n 2) 1))) d
def Pa.of (n:Nat):Pa:=Pa.zah (n+1) n
inductive T (α:Type) where
 | e | n (l:T α) (v:α) (r:T α)
def T.getZ {α:Type} (d:α) (t:T α):α:=T.rec d (λ_ v _ _ _=>v) t
def T.getL {α:Type} (d:α) (_:Pa) (ih:T α->α) (t:T α):α:=T.rec d (λl _ _ _ _=>ih l) t
def T.getR {α:Type} (d:α) (_:Pa) (ih:T α->α) (t:T α):α:=T.rec d (λ_ _ r _ _=>ih r) t
def T.get {α:Type} (d:α) (p:Pa):T α->α:=Pa.rec (T.getZ d) (T.getL d) (T.getR d) p
def T.setZ {α β:Type} (_ x:α) (t:T α) (k:T α->β):β:=T.rec (k (.n .e x .e)) (λl _ r _ _=>k (.n l x r)) t
def T.setL {α β:Type} (d:α) (_:Pa) (ih:α->T α->(T α->β)->β) (x:α) (t:T α) (k:T α->β):β :=
 T.rec (ih x .e λl'=>k (.n l' d .e)) (λl v r _ _=>ih x l λl'=>k (.n l' v r)) t
def T.setR {α β:Type} (d:α) (_:Pa) (ih:α->T α->(T α->β)->β) (x:α) (t:T α) (k:T α->β):β :=
 T.rec (ih x .e λr'=>k (.n .e d r')) (λl v r _ _=>ih x r λr'=>k (.n l v r')) t
def T.fw {α β:Type} (d x:α) (p:Pa):T α->(T α->β)->β :=
 Pa.rec (motive:=λ_=>α->T α->(T α->β)->β) (T.setZ d) (T.setL d) (T.setR d) p x
inductive AV where
 | bool (b:Bool)
 | int (k:IntKind) (n:Int)
 | str (s:List UInt8)
 | sM
 | ptr (id:Pa) (off:Nat)
 | za
 | sl (id:Pa) (off len:Nat) (cap:Option Nat) (esz:Nat)
 | esl
 | sO
 | map (id:Pa)
 | sw
 | fn (f:Nat) (p:Pa) (cap:List AV)
 | bm (f:Nat) (p:Pa) (first:List AV)
 | yld (id:Pa)
 | agg (l:List AV)
 | tup (l:List AV)
 | lst (esz ln:Nat) (l:List AV)
 | fp (l:List AV)
def AV.u:AV:=.tup []
def AV.cells (v:AV):Option (List AV):=AV.rec (motive_1:=λ_=>Option (List AV)) (motive_2:=λ_=>Unit)
  (λb=>some [.bool b]) (λk n=>some [.int k n]) (λs=>some [.str s]) (some [.sM]) (λid off=>some [.ptr id off]) (some [.za])
  (λid off ln cap esz=>some [.sl id off ln cap esz]) (some [.esl]) (some [.sO]) (λid=>some [.map id]) (some [.sw]) (λf p cap _=>some [.fn f p cap]) (λf p cap _=>some [.bm f p cap]) (λid=>some [.yld id])
  (λl _=>some l) (λ_ _=>none) (λe n l _=>some [.lst e n l]) (λl _=>some [.fp l]) () (λ_ _ _ _=>()) v
def uz:AV->Bool
 | .agg _ | .tup _=>false
 | _=>true
inductive Out (β:Type) where
 | ok (x:β) | no (n:Nat)
def asBool {β:Type} (v:AV):(Bool->Out β)->Out β->Out β :=
 AV.rec (motive_1:=λ_=>(Bool->Out β)->Out β->Out β) (motive_2:=λ_=>Unit)
  (λa0 k0 _=>k0 a0)
  (λ_ _ _ no=>no)
  (λ_ _ no=>no)
  (λ_ no=>no)
  (λ_ _ _ no=>no)
  (λ_ no=>no)
  (λ_ _ _ _ _ _ no=>no)
  (λ_ no=>no)
  (λ_ no=>no)
  (λ_ _ no=>no)
  (λ_ no=>no)
  (λ_ _ _ _ _ no=>no)
  (λ_ _ _ _ _ no=>no)
  (λ_ _ no=>no)
  (λ_ _ _ no=>no)
  (λ_ _ _ no=>no)
  (λ_ _ _ _ _ no=>no)
  (λ_ _ _ no=>no)
  () (λ_ _ _ _=>()) v
def asInt {β:Type} (v:AV):(IntKind->Int->Out β)->Out β->Out β :=
 AV.rec (motive_1:=λ_=>(IntKind->Int->Out β)->Out β->Out β) (motive_2:=λ_=>Unit)
  (λ_ _ no=>no)
  (λa0 a1 k0 _=>k0 a0 a1)
  (λ_ _ no=>no)
  (λ_ no=>no)
  (λ_ _ _ no=>no)
  (λ_ no=>no)
  (λ_ _ _ _ _ _ no=>no)
  (λ_ no=>no)
  (λ_ no=>no)
  (λ_ _ no=>no)
  (λ_ no=>no)
  (λ_ _ _ _ _ no=>no)
  (λ_ _ _ _ _ no=>no)
  (λ_ _ no=>no)
  (λ_ _ _ no=>no)
  (λ_ _ _ no=>no)
  (λ_ _ _ _ _ no=>no)
  (λ_ _ _ no=>no)
  () (λ_ _ _ _=>()) v
def sK {β:Type} (v:AV):(List UInt8->Out β)->Out β->Out β :=
 AV.rec (motive_1:=λ_=>(List UInt8->Out β)->Out β->Out β) (motive_2:=λ_=>Unit)
  (λ_ _ no=>no)
  (λ_ _ _ no=>no)
  (λa0 k0 _=>k0 a0)
  (λ_ no=>no)
  (λ_ _ _ no=>no)
  (λ_ no=>no)
  (λ_ _ _ _ _ _ no=>no)
  (λ_ no=>no)
  (λ_ no=>no)
  (λ_ _ no=>no)
  (λ_ no=>no)
  (λ_ _ _ _ _ no=>no)
  (λ_ _ _ _ _ no=>no)
  (λ_ _ no=>no)
  (λ_ _ _ no=>no)
  (λ_ _ _ no=>no)
  (λ_ _ _ _ _ no=>no)
  (λ_ _ _ no=>no)
  () (λ_ _ _ _=>()) v
def rY {β:Type} (v:AV):(Pa->Nat->Out β)->(List AV->Out β)->Out β->Out β :=
 AV.rec (motive_1:=λ_=>(Pa->Nat->Out β)->(List AV->Out β)->Out β->Out β) (motive_2:=λ_=>Unit)
  (λ_ _ _ no=>no)
  (λ_ _ _ _ no=>no)
  (λ_ _ _ no=>no)
  (λ_ _ no=>no)
  (λa0 a1 k0 _ _=>k0 a0 a1)
  (λ_ _ no=>no)
  (λ_ _ _ _ _ _ _ no=>no)
  (λ_ _ no=>no)
  (λ_ _ no=>no)
  (λ_ _ _ no=>no)
  (λ_ _ no=>no)
  (λ_ _ _ _ _ _ no=>no)
  (λ_ _ _ _ _ _ no=>no)
  (λ_ _ _ no=>no)
  (λ_ _ _ _ no=>no)
  (λ_ _ _ _ no=>no)
  (λ_ _ _ _ _ _ no=>no)
  (λa0 _ _ k1 _=>k1 a0)
  () (λ_ _ _ _=>()) v
def asAgg {β:Type} (v:AV):(List AV->Out β)->Out β->Out β :=
 AV.rec (motive_1:=λ_=>(List AV->Out β)->Out β->Out β) (motive_2:=λ_=>Unit)
  (λ_ _ no=>no)
  (λ_ _ _ no=>no)
  (λ_ _ no=>no)
  (λ_ no=>no)
  (λ_ _ _ no=>no)
  (λ_ no=>no)
  (λ_ _ _ _ _ _ no=>no)
  (λ_ no=>no)
  (λ_ no=>no)
  (λ_ _ no=>no)
  (λ_ no=>no)
  (λ_ _ _ _ _ no=>no)
  (λ_ _ _ _ _ no=>no)
  (λ_ _ no=>no)
  (λa0 _ k0 _=>k0 a0)
  (λ_ _ _ no=>no)
  (λ_ _ _ _ _ no=>no)
  (λ_ _ _ no=>no)
  () (λ_ _ _ _=>()) v
def zfx {β:Type} (v:AV):(List AV->Out β)->Out β->Out β :=
 AV.rec (motive_1:=λ_=>(List AV->Out β)->Out β->Out β) (motive_2:=λ_=>Unit)
  (λ_ _ no=>no)
  (λ_ _ _ no=>no)
  (λ_ _ no=>no)
  (λ_ no=>no)
  (λ_ _ _ no=>no)
  (λ_ no=>no)
  (λ_ _ _ _ _ _ no=>no)
  (λ_ no=>no)
  (λ_ no=>no)
  (λ_ _ no=>no)
  (λ_ no=>no)
  (λ_ _ _ _ _ no=>no)
  (λ_ _ _ _ _ no=>no)
  (λ_ _ no=>no)
  (λ_ _ _ no=>no)
  (λa0 _ k0 _=>k0 a0)
  (λ_ _ _ _ _ no=>no)
  (λ_ _ _ no=>no)
  () (λ_ _ _ _=>()) v
def aG {β:Type} (v:AV):(Pa->Out β)->Out β->Out β->Out β :=
 AV.rec (motive_1:=λ_=>(Pa->Out β)->Out β->Out β->Out β) (motive_2:=λ_=>Unit)
  (λ_ _ _ no=>no)
  (λ_ _ _ _ no=>no)
  (λ_ _ _ no=>no)
  (λ_ _ no=>no)
  (λ_ _ _ _ no=>no)
  (λ_ _ no=>no)
  (λ_ _ _ _ _ _ _ no=>no)
  (λ_ _ no=>no)
  (λ_ k1 _=>k1)
  (λa0 k0 _ _=>k0 a0)
  (λ_ _ no=>no)
  (λ_ _ _ _ _ _ no=>no)
  (λ_ _ _ _ _ _ no=>no)
  (λ_ _ _ no=>no)
  (λ_ _ _ _ no=>no)
  (λ_ _ _ _ no=>no)
  (λ_ _ _ _ _ _ no=>no)
  (λ_ _ _ _ no=>no)
  () (λ_ _ _ _=>()) v
def asFn {β:Type} (v:AV):(Nat->Pa->List AV->Out β)->(Pa->Out β)->Out β->Out β :=
 AV.rec (motive_1:=λ_=>(Nat->Pa->List AV->Out β)->(Pa->Out β)->Out β->Out β) (motive_2:=λ_=>Unit)
  (λ_ _ _ no=>no)
  (λ_ _ _ _ no=>no)
  (λ_ _ _ no=>no)
  (λ_ _ no=>no)
  (λ_ _ _ _ no=>no)
  (λ_ _ no=>no)
  (λ_ _ _ _ _ _ _ no=>no)
  (λ_ _ no=>no)
  (λ_ _ no=>no)
  (λ_ _ _ no=>no)
  (λ_ _ no=>no)
  (λa0 a1 a2 _ k0 _ _=>k0 a0 a1 a2)
  (λ_ _ _ _ _ _ no=>no)
  (λa0 _ k1 _=>k1 a0)
  (λ_ _ _ _ no=>no)
  (λ_ _ _ _ no=>no)
  (λ_ _ _ _ _ _ no=>no)
  (λ_ _ _ _ no=>no)
  () (λ_ _ _ _=>()) v
def asBm {β:Type} (v:AV):(Nat->Pa->List AV->Out β)->Out β->Out β :=
 AV.rec (motive_1:=λ_=>(Nat->Pa->List AV->Out β)->Out β->Out β) (motive_2:=λ_=>Unit)
  (λ_ _ no=>no)
  (λ_ _ _ no=>no)
  (λ_ _ no=>no)
  (λ_ no=>no)
  (λ_ _ _ no=>no)
  (λ_ no=>no)
  (λ_ _ _ _ _ _ no=>no)
  (λ_ no=>no)
  (λ_ no=>no)
  (λ_ _ no=>no)
  (λ_ no=>no)
  (λ_ _ _ _ _ no=>no)
  (λa0 a1 a2 _ k0 _=>k0 a0 a1 a2)
  (λ_ _ no=>no)
  (λ_ _ _ no=>no)
  (λ_ _ _ no=>no)
  (λ_ _ _ _ _ no=>no)
  (λ_ _ _ no=>no)
  () (λ_ _ _ _=>()) v
def tZ {β:Type} (v:AV):(Pa->Nat->Nat->Option Nat->Nat->Out β)->Out β->Out β->(List UInt8->Out β)->(Nat->Nat->List AV->Out β)->Out β->Out β :=
 AV.rec (motive_1:=λ_=>(Pa->Nat->Nat->Option Nat->Nat->Out β)->Out β->Out β->(List UInt8->Out β)->(Nat->Nat->List AV->Out β)->Out β->Out β) (motive_2:=λ_=>Unit)
  (λ_ _ _ _ _ _ no=>no)
  (λ_ _ _ _ _ _ _ no=>no)
  (λa0 _ _ _ k3 _ _=>k3 a0)
  (λ_ _ _ _ _ no=>no)
  (λ_ _ _ _ _ _ _ no=>no)
  (λ_ k1 _ _ _ _=>k1)
  (λa0 a1 a2 a3 a4 k0 _ _ _ _ _=>k0 a0 a1 a2 a3 a4)
  (λ_ _ k2 _ _ _=>k2)
  (λ_ _ _ _ _ no=>no)
  (λ_ _ _ _ _ _ no=>no)
  (λ_ _ _ _ _ no=>no)
  (λ_ _ _ _ _ _ _ _ _ no=>no)
  (λ_ _ _ _ _ _ _ _ _ no=>no)
  (λ_ _ _ _ _ _ no=>no)
  (λ_ _ _ _ _ _ _ no=>no)
  (λ_ _ _ _ _ _ _ no=>no)
  (λa0 a1 a2 _ _ _ _ _ k4 _=>k4 a0 a1 a2)
  (λ_ _ _ _ _ _ _ no=>no)
  () (λ_ _ _ _=>()) v
inductive Arg where
 | t (p:Pa) | s (k:Nat) | c (v:AV)
inductive Dst where
 | none | push | loc (p:Pa)
inductive NK where
 | sl | mp | fn | pt
inductive Cls where
 | int | str | bool | nil (k:NK) | agg (n:Nat)
inductive KK where
 | int | str | bool | agg (n:Nat)
inductive PO where
 | mv (x:Arg)
 | pick (c a b:Arg)
 | build (zero:List AV) (parts:List (Nat×Nat×Arg))
 | part (off:Nat) (sz:Option Nat) (x:Arg)
 | ext (i:Nat) (x:Arg)
 | bin (op:BinOp) (c:Cls) (x y:Arg)
 | neg (x:Arg)
 | not (x:Arg)
 | com (x:Arg)
 | conv (k:IntKind) (x:Arg)
 | strs (x:Arg)
 | load (x:Arg)
 | zk (sz:Nat) (x:Arg)
 | nilc (x:Arg)
 | zfy (off:Nat) (x:Arg)
 | ax (esz:Nat) (x i:Arg)
 | zfz (esz:Nat) (ln:Nat) (x i:Arg)
 | idx (esz:Nat) (agg:Bool) (ln:Nat) (x i:Arg)
 | sidx (x i:Arg)
 | slice (esz:Nat) (x:Arg) (lo hi mx:Option Arg)
 | zai (x:Arg) (lo hi:Option Arg)
 | len (x:Arg)
 | slen (x:Arg)
 | mlen (x:Arg)
 | capz (x:Arg)
 | aslice (esz ln:Nat) (x:Arg) (lo hi mx:Option Arg)
 | look (kk:KK) (zero:AV) (ok:Bool) (m k:Arg)
 | fn (f:Nat) (p:Pa) (cap:List Arg)
 | bm (f:Nat) (p:Pa) (first:List Arg)
 | b2s (x:Arg)
 | zaj (mx:Bool) (x:Arg) (xs:List Arg)
 | entry (x:Arg)
def layG (g:Nat):List Nat:=bif Nat.beq g 2 then [1,10,100,1000,10000,100000,1000000,10000000,100000000,1000000000,10000000000,100000000000,1000000000000,10000000000000,100000000000000,1000000000000000,10000000000000000,100000000000000000,1000000000000000000,10000000000000000000] else []
def layL (g:Nat):List AV:=(layG g).map λn=>.int .u64 (.ofNat n)
inductive WO where
 | box (x:Arg)
 | alloc (zero:List AV)
 | cu (esz ln:Nat) (zero:List AV) (parts:List (Nat×Nat×Arg))
 | af (esz bytes:Nat) (zero:List AV) (ln cap:Arg)
 | zak
 | store (sz:Nat) (a x:Arg)
 | zn5 (kk:KK) (m k x:Arg)
 | mapent (kk:KK) (zero:AV) (m k:Arg)
 | entst (m s x:Arg)
 | app (esz bytes:Nat) (s x:Arg)
 | copy (esz:Nat) (d s:Arg)
 | call (f:Arg) (args:List Arg)
 | range (x:Arg)
 | next (x:Arg)
 | clr (esz:Nat) (zero:List AV) (s:Arg)
 | appq (esz bytes:Nat) (s x:Arg)
 | appm (esz bytes:Nat) (zero:List AV) (s x:Arg)
inductive RO where
 | s (op:PO)
 | q (dst:Pa) (op:PO)
 | p (dst:Dst) (guard:Option (Arg×Bool)) (op:PO)
 | w (dst:Dst) (guard:Option (Arg×Bool)) (op:WO)
inductive IR where
 | skip
 | reg (l:List RO)
 | sD (c0:List WO) (l:List (RO×Nat×List WO))
 | seq (a b:IR)
 | cond (c:Arg) (a b:IR)
 | block (id:Nat) (b:IR)
 | loop (b:IR)
 | rf (f:Arg) (ps:List Pa) (a b:IR)
 | exit (id:Nat)
 | ret
 | bad (n:Nat)
inductive Jump where
 | none | ret | exit (id:Nat)
inductive LSt where
 | ready | busy | done
inductive Blk where
 | no
 | cells (op:Bool) (n:Nat) (t:T AV)
 | map (n:Nat) (l:List (AV×AV))
 | loop (st:LSt) (j:Jump) (tm:T AV) (ps:List Pa) (a b:IR)
 | iter (m:Pa) (n:Nat) (seen:List Nat) (c:Nat)
def qc {β:Type} (b:Blk) (k:Bool->Nat->T AV->Out β) (no:Out β):Out β :=
 Blk.rec (motive:=λ_=>(Bool->Nat->T AV->Out β)->Out β->Out β) (λ_ no=>no) (λop n t k _=>k op n t) (λ_ _ _ no=>no) (λ_ _ _ _ _ _ _ no=>no) (λ_ _ _ _ _ no=>no) b k no
def rG {β:Type} (b:Blk) (k:Nat->List (AV×AV)->Out β) (no:Out β):Out β :=
 Blk.rec (motive:=λ_=>(Nat->List (AV×AV)->Out β)->Out β->Out β) (λ_ no=>no) (λ_ _ _ _ no=>no) (λn l k _=>k n l) (λ_ _ _ _ _ _ _ no=>no) (λ_ _ _ _ _ no=>no) b k no
def p5 {β:Type} (b:Blk) (k:LSt->Jump->T AV->List Pa->IR->IR->Out β) (no:Out β):Out β :=
 Blk.rec (motive:=λ_=>(LSt->Jump->T AV->List Pa->IR->IR->Out β)->Out β->Out β) (λ_ no=>no) (λ_ _ _ _ no=>no) (λ_ _ _ no=>no) (λst j tm ps a b k _=>k st j tm ps a b) (λ_ _ _ _ _ no=>no) b k no
def aW {β:Type} (b:Blk) (k:Pa->Nat->List Nat->Nat->Out β) (no:Out β):Out β :=
 Blk.rec (motive:=λ_=>(Pa->Nat->List Nat->Nat->Out β)->Out β->Out β) (λ_ no=>no) (λ_ _ _ _ no=>no) (λ_ _ _ no=>no) (λ_ _ _ _ _ _ _ no=>no) (λm n s c k _=>k m n s c) b k no
inductive RV where
 | t (p:Pa) | cell (p:Pa) (sz:Option Nat)
structure Fn where
 params:List Pa
 res:List RV
 body:IR
 init:T AV
def mh {β:Type} (n:Nat) (k:Nat->β):β:=Nat.rec (k 0) (λm _=>k (Nat.succ m)) n
def vz {β:Type} (z:Int) (k:Int->β):β:=Int.rec (λn=>mh n λn=>k (.ofNat n)) (λn=>mh n λn=>k (.negSucc n)) z
def iadd (a b:Int):Int:=Int.rec (λm=>Int.rec (λn=>.ofNat (Nat.add m n)) (λ_=>a+b) b) (λ_=>a+b) a
def zj4 (z:Int):Int:=Int.rec (λn=>bif Nat.ble n 9223372036854775807 then .ofNat n else IntKind.wrap .i64 (.ofNat n))
 (λn=>bif Nat.ble n 9223372036854775807 then .negSucc n else IntKind.wrap .i64 (.negSucc n)) z
def kP (k:IntKind):Int->Int:=IntKind.rec (motive:=λ_=>Int->Int) (IntKind.wrap .i8) (IntKind.wrap .i16) (IntKind.wrap .i32) zj4 (IntKind.wrap .u8) (IntKind.wrap .u16) (IntKind.wrap .u32) (IntKind.wrap .u64) k
def ilt (a b:Int):Bool :=
 Int.rec (λm=>Int.rec (λn=>Nat.ble (Nat.succ m) n) (λ_=>false) b) (λm=>Int.rec (λ_=>true) (λn=>Nat.ble (Nat.succ n) m) b) a
def ieq (a b:Int):Bool :=
 Int.rec (λm=>Int.rec (λn=>Nat.beq m n) (λ_=>false) b) (λm=>Int.rec (λ_=>false) (λn=>Nat.beq m n) b) a
def zuy:IntKind->Nat
 | .i8=>0 | .i16=>1 | .i32=>2 | .i64=>3 | .u8=>4 | .u16=>5 | .u32=>6 | .u64=>7
def xO (a b:IntKind):Bool:=Nat.beq (zuy a) (zuy b)
def gN:List UInt8->List UInt8->Bool
 | [],[]=>true
 | a::x,b::y=>bif Nat.beq a.toNat b.toNat then gN x y else false
 | _,_=>false
structure Tm where
 v:T AV
 s:List AV
def nthN (l:List AV):AV:=List.rec .u (λv _ _=>v) l
def nthS (_:Nat) (ih:List AV->AV) (l:List AV):AV:=List.rec .u (λ_ l _=>ih l) l
def nth (k:Nat):List AV->AV:=Nat.rec nthN nthS k
def evT (p:Pa) (tm:Tm):AV:=Tm.rec (λv _=>T.get .u p v) tm
def evS (k:Nat) (tm:Tm):AV:=Tm.rec (λ_ s=>nth k s) tm
def evC (v:AV) (_:Tm):AV:=v
def Arg.ev (a:Arg):Tm->AV:=Arg.rec evT evS evC a
section
variable {β:Type}
abbrev BI (β:Type):=IntKind->Int->Int->Out β->(AV->Out β)->Out β
def zzn:BI β:=λk a b _ K=>vz (kP k (iadd a b)) λz=>K (.int k z)
def zzo:BI β:=λk a b _ K=>vz (kP k (a-b)) λz=>K (.int k z)
def zzp:BI β:=λk a b _ K=>vz (kP k (a*b)) λz=>K (.int k z)
def zzq:BI β:=λk a b no K=>bif ieq b 0 then no else vz (k.wrap (a.tdiv b)) λz=>K (.int k z)
def zzr:BI β:=λk a b no K=>bif ieq b 0 then no else vz (a.tmod b) λz=>K (.int k z)
def zzs:BI β:=λk a b _ K=>vz (k.wrap (BitVec.ofInt k.bits a &&& BitVec.ofInt k.bits b).toNat) λz=>K (.int k z)
def biOr:BI β:=λk a b _ K=>vz (k.wrap (BitVec.ofInt k.bits a ||| BitVec.ofInt k.bits b).toNat) λz=>K (.int k z)
def zzt:BI β:=λk a b _ K=>vz (k.wrap (BitVec.ofInt k.bits a ^^^ BitVec.ofInt k.bits b).toNat) λz=>K (.int k z)
def zn6:BI β:=λk a b _ K=>vz (k.wrap (BitVec.ofInt k.bits a &&& ~~~BitVec.ofInt k.bits b).toNat) λz=>K (.int k z)
def zzu:BI β:=λk a b no K=>bif ilt b 0 then no else vz (k.wrap (a*2 ^ (min b.toNat k.bits))) λz=>K (.int k z)
def zzv:BI β:=λk a b no K=>bif ilt b 0 then no else vz (a.fdiv (2 ^ (min b.toNat k.bits))) λz=>K (.int k z)
def zzw:BI β:=λ_ a b _ K=>K (.bool (ieq a b))
def zzx:BI β:=λ_ a b _ K=>K (.bool (!ieq a b))
def zzy:BI β:=λ_ a b _ K=>K (.bool (ilt a b))
def zz0:BI β:=λ_ a b _ K=>K (.bool (!ilt b a))
def zz1:BI β:=λ_ a b _ K=>K (.bool (ilt b a))
def zz2:BI β:=λ_ a b _ K=>K (.bool (!ilt a b))
def zh9 (op:BinOp):BI β:=BinOp.rec (motive:=λ_=>BI β) zzn zzo zzp zzq zzr zzs biOr zzt zzu zzv zn6 zzw zzx zzy zz0 zz1 zz2 op
def zj5 (op:BinOp):Bool:=BinOp.rec (motive:=λ_=>Bool) false false false false false false false false true true false false false false false false false op
def isEq (op:BinOp):Option Bool:=BinOp.rec (motive:=λ_=>Option Bool) none none none none none none none none none none none (some true) (some false) none none none none op
def gR:NK->AV->Option Bool
 | .sl,.za=>some true
 | .sl,.sl .. => some false
 | .sl,.esl=>some false
 | .sl,.lst _ n _=>bif Nat.ble 1 n then some false else none
 | .mp,.sO=>some true
 | .mp,.map _=>some false
 | .fn,.sw=>some true
 | .fn,.fn .. => some false
 | .pt,.sM=>some true
 | .pt,.ptr .. => some false
 | .pt,.fp _=>some false
 | _,_=>none
def kD:List AV->List AV->Option Bool
 | [],[]=>some true
 | .int k a::l,.int k' b::l'=>bif xO k k' then (bif ieq a b then kD l l' else some false) else none
 | _,_=>none
abbrev BA (β:Type):=BinOp->AV->AV->(AV->Out β)->Out β
def pO (op:BinOp) (r:Bool) (K:AV->Out β):Out β:=match isEq op with
 | some true=>K (.bool r)
 | some false=>K (.bool (!r))
 | none=>.no 5
def zz3:BA β:=λop x y K=>asInt x (λk a=>asInt y (λk' b=>bif zj5 op||xO k k' then zh9 op k a b (.no 5) K else .no 5) (.no 5)) (.no 5)
def zz4:BA β:=λop x y K=>sK x (λa=>sK y (λb=>match op with
  | .add=>bif Nat.ble (a.length+b.length) 1000000 then K (.str (a++b)) else .no 5
  | op=>pO op (gN a b) K) (.no 5)) (.no 5)
def zws:BA β:=λop x y K=>asBool x (λa=>asBool y (λb=>pO op (a==b) K) (.no 5)) (.no 5)
def zn7 (k:NK):BA β:=λop x y K=>match gR k x,gR k y with
  | some b,some true=>pO op b K
  | _,_=>.no 5
def zn8 (n:Nat):BA β:=λop x y K=>asAgg x (λa=>asAgg y (λb=>bif Nat.beq a.length n&&Nat.beq b.length n then (match kD a b with
  | some r=>pO op r K
  | none=>.no 5) else .no 5) (.no 5)) (.no 5)
def zn9 (c:Cls):BA β:=Cls.rec (motive:=λ_=>BA β) zz3 zz4 zws zn7 zn8 c
end
def yU (t:T AV):Nat->Nat->List AV :=
 λoff n=>Nat.rec (motive:=λ_=>Nat->List AV) (λ_=>[]) (λ_ ih off=>T.get .u (.of off) t::ih (off+1)) n off
def gZ {β:Type} (l:List AV):T AV->Nat->(T AV->β)->β :=
 List.rec (motive:=λ_=>T AV->Nat->(T AV->β)->β) (λt _ k=>k t) (λv _ ih t off k=>T.fw .u v (.of off) t λt'=>ih t' (off+1) k) l
def zdv {β:Type} (l:List AV) (k:Nat->T AV->β):β:=gZ l .e 0 λt=>k l.length t
def gQ (l:List AV) (off:Nat) (c:List AV):List AV:=l.take off++c++l.drop (off+c.length)
def gL (l:List AV):List (Nat×Nat×AV)->Option (List AV)
 | []=>some l
 |(off,sz,v)::rest=>match v.cells with
  | some c=>bif Nat.beq c.length sz&&Nat.ble (off+sz) l.length then gL (gQ l off c) rest else none
  | none=>none
def j7 (ps:List (Nat×Nat×Arg)) (tm:Tm):List (Nat×Nat×AV):=ps.map λ(o,s,a)=>(o,s,a.ev tm)
def nW (n:Nat) (z:List AV):List AV:=Nat.rec [] (λ_ ih=>z++ih) n
def kA (v:AV) (y:Nat):Option Nat:=match v with
 | .int _ (.ofNat n)=>bif Nat.ble n y then some n else none
 | _=>none
def uW:KK->AV->AV->Option Bool
 | .str,.str a,.str b=>some (gN a b)
 | .int,.int k a,.int k' b=>bif xO k k' then some (ieq a b) else none
 | .bool,.bool a,.bool b=>some (a==b)
 | .agg _,.agg a,.agg b=>kD a b
 | _,_,_=>none
def dD:KK->AV->Bool
 | .agg n,.agg l=>Nat.beq l.length n
 | .agg _,_=>false
 | _,_=>true
def cT (kk:KK) (k:AV):List (AV×AV)->Nat->Option (Option (Nat×AV))
 | [],_=>some none
 |(k',v)::l,i=>match uW kk k k' with
  | some true=>some (some (i,v))
  | some false=>cT kk k l (i+1)
  | none=>none
def xB (kk:KK) (k:AV) (l:List (AV×AV)):Option (Option (Nat×AV)):=bif dD kk k then cT kk k l 0 else none
def b2sA:List AV->Option (List UInt8)
 | []=>some []
 | .int .u8 n::l=>match b2sA l with
  | some s=>some (UInt8.ofNat n.toNat::s)
  | none=>none
 | _=>none
def minA (mx:Bool):AV->List AV->Option AV
 | x,[]=>some x
 | .int k a,.int k' b::l=>bif xO k k' then minA mx (.int k (bif (bif mx then ilt a b else ilt b a) then b else a)) l else none
 | _,_=>none
section
variable {β:Type}
def bnd (o:Option AV) (y d:Nat):Option Nat:=match o with
 | some v=>kA v y
 | none=>some d
def pS (id:Pa) (off ln cap esz:Nat) (lo hi mx:Option AV) (K:AV->Out β):Out β :=
 bif mx.isSome&&hi.isNone then .no 17 else
 match bnd mx cap cap with
 | none=>.no 17
 | some m=>match bnd hi m ln with
  | none=>.no 17
  | some h=>match bnd lo h 0 with
   | none=>.no 17
   | some l=>bif Nat.beq m l then K (.sl id off (h-l) (some 0) esz)
    else mh (off+l*esz) λoff=>mh (h-l) λh=>mh (m-l) λm=>K (.sl id off h (some m) esz)
def zal (id:Pa) (off ln esz:Nat) (lo hi mx:Option AV) (K:AV->Out β):Out β :=
 match mx with
 | none=>match bnd hi ln ln with
  | none=>.no 17
  | some h=>match bnd lo h 0 with
   | none=>.no 17
   | some l=>bif Nat.beq l 0 then K (.sl id off h none esz) else bif Nat.ble (l+1) ln then mh (off+l*esz) λoff=>mh (h-l) λh=>K (.sl id off h none esz) else K .esl
 | some mv=>bif hi.isNone then .no 17 else match kA mv ln with
  | none=>.no 17
  | some m=>match bnd hi m 0 with
   | none=>.no 17
   | some h=>match bnd lo h 0 with
    | none=>.no 17
    | some l=>bif Nat.beq m l then .no 17 else mh (off+l*esz) λoff=>mh (h-l) λh=>mh (m-l) λm=>K (.sl id off h (some m) esz)
def zia (esz n:Nat) (l:List AV) (lo hi mx:Option AV) (K:AV->Out β):Out β :=
 bif mx.isSome&&hi.isNone then .no 17 else match bnd mx n n with
 | none=>.no 17
 | some m=>match bnd hi m n with
  | none=>.no 17
  | some h=>match bnd lo h 0 with
   | none=>.no 17
   | some q=>K (.lst esz (h-q) ((l.drop (q*esz)).take ((h-q)*esz)))
def zdw (lo hi mx:Option AV) (K:AV->Out β):Out β :=
 match mx,bnd hi 0 0,bnd lo 0 0 with
 | none,some _,some _=>K .za
 | _,_,_=>.no 17
def zam (esz:Nat) (x:AV) (lo hi mx:Option AV) (K:AV->Out β):Out β :=
 tZ x (λid off ln cap e=>bif Nat.beq e esz then (match cap with | some c=>pS id off ln c esz lo hi mx K | none=>zal id off ln esz lo hi mx K) else .no 17)
  (zdw lo hi mx K) (.no 17) (λ_=>.no 17) (λe n l=>bif Nat.beq e esz&&Nat.ble 1 n then zia esz n l lo hi mx K else .no 17) (.no 17)
abbrev EP (β:Type):=Tm->T Blk->(AV->Out β)->Out β
def epMv (x:Arg):EP β:=λtm _ K=>K (x.ev tm)
def yS (c:AV) (a:AV) (b:AV) (K:AV->Out β):Out β:=asBool c (λt=>K (bif t then a else b)) (.no 1)
def zwt (c a b:Arg):EP β:=λtm _ K=>yS (c.ev tm) (a.ev tm) (b.ev tm) K
def zdx (zero:List AV) (ps:List (Nat×Nat×Arg)):EP β:=λtm _ K=>match gL zero (j7 ps tm) with
  | some l=>K (.agg l)
  | none=>.no 2
def zfw (off:Nat) (sz:Option Nat) (x:AV) (K:AV->Out β):Out β:=asAgg x (λl=>match sz with
   | some n=>K (.agg ((l.drop off).take n))
   | none=>match l[off]? with
    | some v=>K v
    | none=>.no 3) (.no 3)
def zib (off:Nat) (sz:Option Nat) (x:Arg):EP β:=λtm _ K=>zfw off sz (x.ev tm) K
def mg (i:Nat) (x:AV) (K:AV->Out β):Out β:=zfx x (λl=>match l[i]? with
   | some v=>K v
   | none=>.no 4) (.no 4)
def zoa (i:Nat) (x:Arg):EP β:=λtm _ K=>mg i (x.ev tm) K
def zz5 (op:BinOp) (c:Cls) (x y:Arg):EP β:=λtm _ K=>zn9 c op (x.ev tm) (y.ev tm) K
def sNeg (x:AV) (K:AV->Out β):Out β:=asInt x (λk a=>vz (kP k (0-a)) λz=>K (.int k z)) (.no 6)
def zz6 (x:Arg):EP β:=λtm _ K=>sNeg (x.ev tm) K
def eX (x:AV) (K:AV->Out β):Out β:=asBool x (λb=>K (.bool !b)) (.no 6)
def zz7 (x:Arg):EP β:=λtm _ K=>eX (x.ev tm) K
def sCom (x:AV) (K:AV->Out β):Out β:=asInt x (λk a=>vz (k.wrap (BitVec.ofInt k.bits (if k.signed then -1 else k.max) ^^^ BitVec.ofInt k.bits a).toNat) λz=>K (.int k z)) (.no 6)
def zz8 (x:Arg):EP β:=λtm _ K=>sCom (x.ev tm) K
def mE (k:IntKind) (x:AV) (K:AV->Out β):Out β:=asInt x (λ_ a=>vz (kP k a) λz=>K (.int k z)) (.no 7)
def zwu (k:IntKind) (x:Arg):EP β:=λtm _ K=>mE k (x.ev tm) K
def zz9 (x:AV) (K:AV->Out β):Out β:=sK x (λs=>K (.str s)) (.no 7)
def zwv (x:Arg):EP β:=λtm _ K=>zz9 (x.ev tm) K
def zI (x:AV) (h:T Blk) (K:AV->Out β):Out β:=rY x (λid off=>qc (T.get .no id h) (λ_ n t=>bif Nat.ble (Nat.succ off) n then K (T.get .u (.of off) t) else .no 8) (.no 9)) (λl=>match l with | v::_=>K v | []=>.no 8) (.no 10)
def zan (x:Arg):EP β:=λtm h K=>zI (x.ev tm) h K
def zF (s:Nat) (x:AV) (h:T Blk) (K:AV->Out β):Out β:=rY x (λid off=>qc (T.get .no id h) (λ_ n t=>bif Nat.ble (off+s) n then K (.agg (yU t off s)) else .no 8) (.no 9)) (λl=>bif Nat.ble s l.length then K (.agg (l.take s)) else .no 8) (.no 10)
def zdy (s:Nat) (x:Arg):EP β:=λtm h K=>zF s (x.ev tm) h K
def qaa (x:AV) (K:AV->Out β):Out β:=rY x (λid off=>K (.ptr id off)) (λl=>K (.fp l)) (asFn x (λf p c=>K (.fn f p c)) (λid=>K (.yld id)) (asBm x (λf p c=>K (.bm f p c)) (.no 11)))
def zic (x:Arg):EP β:=λtm _ K=>qaa (x.ev tm) K
def zK (off:Nat) (x:AV) (K:AV->Out β):Out β:=rY x (λid o=>mh (o+off) λo=>K (.ptr id o)) (λl=>K (.fp (l.drop off))) (.no 12)
def zsg (off:Nat) (x:Arg):EP β:=λtm _ K=>zK off (x.ev tm) K
def zL (esz:Nat) (x:AV) (i:AV) (K:AV->Out β):Out β:=asInt i (λ_ j=>tZ x (λid off n _ _ =>
  match j with
  | .ofNat j=>bif Nat.ble (Nat.succ j) n then mh (off+j*esz) λo=>K (.ptr id o) else .no 13
  | _=>.no 13) (.no 13) (.no 13) (λ_=>.no 13) (λe n l =>
  match j with
  | .ofNat j=>bif Nat.ble (Nat.succ j) n&&Nat.beq e esz then K (.fp (l.drop (j*esz))) else .no 13
  | _=>.no 13) (.no 13)) (.no 13)
def zdz (esz:Nat) (x i:Arg):EP β:=λtm _ K=>zL esz (x.ev tm) (i.ev tm) K
def zww (esz:Nat) (n:Nat) (x:AV) (i:AV) (K:AV->Out β):Out β:=asInt i (λ_ j=>rY x (λid off =>
  match j with
  | .ofNat j=>bif Nat.ble (Nat.succ j) n then mh (off+j*esz) λo=>K (.ptr id o) else .no 14
  | _=>.no 14) (λl =>
  match j with
  | .ofNat j=>bif Nat.ble (Nat.succ j) n then K (.fp (l.drop (j*esz))) else .no 14
  | _=>.no 14) (.no 14)) (.no 14)
def zd0 (esz n:Nat) (x i:Arg):EP β:=λtm _ K=>zww esz n (x.ev tm) (i.ev tm) K
def sIdx (esz:Nat) (agg:Bool) (n:Nat) (x:AV) (i:AV) (K:AV->Out β):Out β:=asInt i (λ_ j=>asAgg x (λl =>
  match j with
  | .ofNat j=>bif Nat.ble (Nat.succ j) n then (match agg with
     | true=>K (.agg ((l.drop (j*esz)).take esz))
     | false=>match l[j*esz]? with
      | some v=>K v
      | none=>.no 15) else .no 15
  | _=>.no 15) (.no 15)) (.no 15)
def zob (esz:Nat) (agg:Bool) (n:Nat) (x i:Arg):EP β:=λtm _ K=>sIdx esz agg n (x.ev tm) (i.ev tm) K
def zac (x:AV) (i:AV) (K:AV->Out β):Out β:=asInt i (λ_ j=>sK x (λs =>
  match j with
  | .ofNat j=>match s[j]? with
   | some b=>mh b.toNat λn=>K (.int .u8 (.ofNat n))
   | none=>.no 16
  | _=>.no 16) (.no 16)) (.no 16)
def zid (x i:Arg):EP β:=λtm _ K=>zac (x.ev tm) (i.ev tm) K
def zsh (esz:Nat) (x:Arg) (lo hi mx:Option Arg):EP β:=λtm _ K=>zam esz (x.ev tm) (lo.map (Arg.ev · tm)) (hi.map (Arg.ev · tm)) (mx.map (Arg.ev · tm)) K
def zao (x:Arg) (lo hi:Option Arg):EP β:=λtm _ K=>sK (x.ev tm) (λs =>
  match bnd (hi.map (Arg.ev · tm)) s.length s.length with
   | none=>.no 18
   | some h=>match bnd (lo.map (Arg.ev · tm)) h 0 with
    | none=>.no 18
    | some l=>K (.str ((s.drop l).take (h-l)))) (.no 18)
def sLen (x:AV) (K:AV->Out β):Out β:=tZ x (λ_ _ n _ _=>K (.int .i64 (.ofNat n))) (K (.int .i64 (.ofNat 0))) (K (.int .i64 (.ofNat 0))) (λ_=>.no 19) (λ_ n _=>K (.int .i64 (.ofNat n))) (.no 19)
def qab (x:Arg):EP β:=λtm _ K=>sLen (x.ev tm) K
def kQ (x:AV) (K:AV->Out β):Out β:=sK x (λs=>mh s.length λn=>K (.int .i64 (.ofNat n))) (.no 19)
def zwx (x:Arg):EP β:=λtm _ K=>kQ (x.ev tm) K
def qac (x:AV) (h:T Blk) (K:AV->Out β):Out β:=aG x (λid=>rG (T.get .no id h) (λn _=>mh n λn=>K (.int .i64 (.ofNat n))) (.no 19)) (K (.int .i64 (.ofNat 0))) (.no 19)
def zwy (x:Arg):EP β:=λtm h K=>qac (x.ev tm) h K
def qad (x:AV) (K:AV->Out β):Out β:=tZ x (λ_ _ _ _ _=>.no 20) (K (.int .i64 (.ofNat 0))) (.no 20) (λ_=>.no 20) (λ_ _ _=>.no 20) (.no 20)
def zwz (x:Arg):EP β:=λtm _ K=>qad (x.ev tm) K
def zsi (esz ln:Nat) (x:AV) (lo hi mx:Option AV) (K:AV->Out β):Out β:=rY x (λid off=>pS id off ln ln esz lo hi mx K) (λ_=>.no 17) (.no 17)
def zoc (esz ln:Nat) (x:Arg) (lo hi mx:Option Arg):EP β:=λtm _ K=>zsi esz ln (x.ev tm) (lo.map (Arg.ev · tm)) (hi.map (Arg.ev · tm)) (mx.map (Arg.ev · tm)) K
def qae (kk:KK) (zero:AV) (ok:Bool) (m:AV) (k:AV) (h:T Blk) (K:AV->Out β):Out β:=aG m (λid=>rG (T.get .no id h) (λ_ l=>match xB kk k l with
        | some (some (_,v))=>K (bif ok then .tup [v,.bool true] else v)
        | some none=>K (bif ok then .tup [zero,.bool false] else zero)
        | none=>.no 20) (.no 20)) (bif dD kk k then K (bif ok then .tup [zero,.bool false] else zero) else .no 20) (.no 20)
def zie (kk:KK) (zero:AV) (ok:Bool) (m k:Arg):EP β:=λtm h K=>qae kk zero ok (m.ev tm) (k.ev tm) h K
def epFn (f:Nat) (p:Pa) (cap:List Arg):EP β:=λtm _ K=>K (.fn f p (cap.map (Arg.ev · tm)))
def epBm (f:Nat) (p:Pa) (first:List Arg):EP β:=λtm _ K=>K (.bm f p (first.map (Arg.ev · tm)))
def sB2s (x:AV) (h:T Blk) (K:AV->Out β):Out β:=tZ x (λid off n _ _=>qc (T.get .no id h) (λ_ m t=>bif Nat.ble (off+n) m then (match b2sA (yU t off n) with
          | some s=>K (.str s)
          | none=>.no 21) else .no 21) (.no 21)) (K (.str [])) (.no 21) (λ_=>.no 21) (λ_ _ _=>.no 21) (.no 21)
def zod (x:Arg):EP β:=λtm h K=>sB2s (x.ev tm) h K
def zoe (mx:Bool) (x:Arg) (xs:List Arg):EP β:=λtm _ K=>match minA mx (x.ev tm) (xs.map (Arg.ev · tm)) with
  | some v=>K v
  | none=>.no 22
def zof (x:AV) (h:T Blk) (K:AV->Out β):Out β:=rY x (λid off=>bif Nat.beq off 0 then aW (T.get .no id h) (λmid _ seen c=>rG (T.get .no mid h) (λk l=>match seen with
   | i::_=>bif Nat.beq c k then (match l[i]? with
    | some (a,b)=>K (.tup [a,b])
    | none=>.no 54) else .no 54
   | []=>.no 54) (.no 54)) (.no 54) else .no 54) (λ_=>.no 54) (.no 54)
def zsj (x:Arg):EP β:=λtm h K=>zof (x.ev tm) h K
def PO.ev (o:PO):EP β:=PO.rec (motive:=λ_=>EP β) epMv zwt zdx zib zoa zz5 zz6 zz7 zz8 zwu zwv zan zdy zic zsg zdz zd0 zob zid zsh zao qab zwx zwy zwz zoc zie epFn epBm zod zoe zsj o
abbrev Kw (β:Type):=AV->T Blk->Pa->Out β
def newB (op:Bool) (l:List AV) (h:T Blk) (nx:Pa) (K:Pa->T Blk->Pa->Out β):Out β :=
 zdv l λn t=>mh n λn=>T.fw .no (.cells op n t) nx h λh'=>K nx h' nx.succ
def yX (op:Bool) (l:List AV) (h:T Blk) (nx:Pa) (K:Pa->T Blk->Pa->Out β):Out β :=
 T.rec (motive:=λ_=>Out β) (newB op l h nx K) (λ_ _ _ _ _=>newB op l h nx K) h
def wX (x:AV) (h:T Blk) (no:Out β) (K:List AV->Nat->Out β):Out β :=
 tZ x (λid off ln _ esz=>qc (T.get .no id h) (λ_ m t=>bif Nat.ble (off+ln*esz) m then K (yU t off (ln*esz)) ln else no) no)
  (K [] 0) (K [] 0) (λs=>K (s.map λb=>.int .u8 b.toNat) s.length) (λ_ n l=>K l n) no
def wJ (id:Pa) (off ln:Nat) (cap:Option Nat) (esz:Nat) (op:Bool) (m:Nat) (t:T AV) (new:List AV) (n:Nat) (h:T Blk) (nx:Pa) (K:Kw β):Out β :=
 gZ new t (off+ln*esz) λt'=>T.fw .no (.cells op m t') id h λh'=>mh (ln+n) λq=>K (.sl id off q cap esz) h' nx
def wI (off ln:Nat) (esz:Nat) (t:T AV) (new:List AV) (n:Nat) (h:T Blk) (nx:Pa) (K:Kw β):Out β :=
 yX true (yU t off (ln*esz)++new) h nx λid' h' nx'=>mh (ln+n) λq=>K (.sl id' 0 q none esz) h' nx'
def bJ (id:Pa) (ln esz:Nat) (m:Nat) (t:T AV) (new:List AV) (n:Nat) (h:T Blk) (nx:Pa) (K:Kw β):Out β :=
 gZ new t m λt'=>mh (m+n*esz) λm'=>T.fw .no .no id h λh'=>T.fw .no (.cells true m' t') nx h' λh''=>mh (ln+n) λq=>K (.sl nx 0 q none esz) h'' nx.succ
def appA (esz bytes:Nat) (s x:AV) (h:T Blk) (nx:Pa) (K:Kw β):Out β :=
 wX x h (.no 30) λnew n=>bif Nat.ble (bytes*1000000) 70368744177664&&Nat.beq new.length (n*esz)&&Nat.ble 1 esz&&new.all uz then
  tZ s (λid off ln cap e=>bif Nat.beq e esz&&Nat.ble (ln+n) 1000000 then
    qc (T.get .no id h) (λop m t=>bif Nat.ble (off+ln*esz) m then
     (match cap with
     | some c=>bif Nat.ble (ln+n) c then (bif Nat.ble (off+(ln+n)*esz) m then wJ id off ln (some c) esz op m t new n h nx K else .no 32) else wI off ln esz t new n h nx K
     | none=>bif Nat.ble (off+(ln+n)*esz) m then wJ id off ln none esz op m t new n h nx K
      else bif op&&Nat.beq (off+ln*esz) m&&Nat.beq off 0 then bJ id ln esz m t new n h nx K else .no 33) else .no 34) (.no 35) else .no 36)
   (bif Nat.beq n 0 then K .za h nx else bif Nat.ble n 1000000 then yX true new h nx λid h' nx'=>K (.sl id 0 n none esz) h' nx' else .no 31)
   (.no 37) (λ_=>.no 37) (λ_ _ _=>.no 37) (.no 37)
  else .no 38
def zsk (l:List AV) (t:T AV) (k:T AV->Out β):Out β:=List.rec (k t) (λ_ _ _=>.no 88) l
def zog (p:Pa) (_:List Pa) (ih:List AV->T AV->(T AV->Out β)->Out β) (l:List AV) (t:T AV) (k:T AV->Out β):Out β :=
 List.rec (.no 89) (λv vs _=>T.fw .u v p t λt'=>ih vs t' k) l
def kM (ps:List Pa):List AV->T AV->(T AV->Out β)->Out β :=
 List.rec (motive:=λ_=>List AV->T AV->(T AV->Out β)->Out β) zsk zog ps
structure Calls (β:Type) where
 fn:Nat->Pa->List AV->T Blk->Pa->Kw β->Out β
 yld:Pa->List AV->T Blk->Pa->Kw β->Out β
 pk:List Nat->(Nat->Out β)->Out β
abbrev EW (β:Type):=Calls β->Tm->T Blk->Pa->Kw β->Out β
def wz (x:AV) (h:T Blk) (nx:Pa) (K:AV->T Blk->Pa->Out β):Out β:=match x.cells with
 | some l=>yX false l h nx λid h' nx'=>K (.ptr id 0) h' nx'
 | none=>.no 39
def qaf (x:Arg):EW β:=λ_ tm h nx K=>wz (x.ev tm) h nx K
def zsl (zero:List AV):EW β:=λ_ _ h nx K=>yX false zero h nx λid h' nx'=>K (.ptr id 0) h' nx'
def zoh (esz ln:Nat) (zero:List AV) (ps:List (Nat×Nat×Arg)):EW β:=λ_ tm h nx K=>match gL (nW ln zero) (j7 ps tm) with
  | some l=>yX false l h nx λid h' nx'=>K (.sl id 0 ln (some ln) esz) h' nx'
  | none=>.no 40
def xJ (esz:Nat) (bytes:Nat) (zero:List AV) (ln:AV) (cap:AV) (h:T Blk) (nx:Pa) (K:AV->T Blk->Pa->Out β):Out β:=asInt ln (λ_ l=>asInt cap (λ_ c=>match l,c with
  | .ofNat l,.ofNat c=>bif Nat.ble l c&&Nat.ble c 1000000&&Nat.ble (bytes*c) 281474976710656 then
    yX false (nW c zero) h nx λid h' nx'=>K (.sl id 0 l (some c) esz) h' nx'
   else .no 41
  | _,_=>.no 41) (.no 41)) (.no 41)
def zlw (esz bytes:Nat) (zero:List AV) (ln cap:Arg):EW β:=λ_ tm h nx K=>xJ esz bytes zero (ln.ev tm) (cap.ev tm) h nx K
def zsm:EW β:=λ_ _ h nx K=>T.fw .no (.map 0 []) nx h λh'=>K (.map nx) h' nx.succ
def zX (sz:Nat) (a:AV) (x:AV) (h:T Blk) (nx:Pa) (K:AV->T Blk->Pa->Out β):Out β:=rY a (λid off=>qc (T.get .no id h) (λop n t=>match x.cells with
   | some c=>bif Nat.beq c.length sz&&Nat.ble (off+sz) n then
     gZ c t off λt'=>T.fw .no (.cells op n t') id h λh'=>K .u h' nx
    else .no 42
   | none=>.no 42) (.no 43)) (λ_=>.no 44) (.no 44)
def zsn (sz:Nat) (a x:Arg):EW β:=λ_ tm h nx K=>zX sz (a.ev tm) (x.ev tm) h nx K
def zw0 (kk:KK) (m:AV) (k:AV) (x:AV) (h:T Blk) (nx:Pa) (K:AV->T Blk->Pa->Out β):Out β:=aG m (λid=>rG (T.get .no id h) (λn l=>match xB kk k l with
        | some (some (i,_))=>T.fw .no (.map n (l.modify i λe=>(e.1,x))) id h λh'=>K .u h' nx
        | some none=>mh (n+1) λn=>T.fw .no (.map n (l++[(k,x)])) id h λh'=>K .u h' nx
        | none=>.no 45) (.no 45)) (.no 45) (.no 45)
def zso (kk:KK) (m k x:Arg):EW β:=λ_ tm h nx K=>zw0 kk (m.ev tm) (k.ev tm) (x.ev tm) h nx K
def zsp (kk:KK) (zero:AV) (m:AV) (k:AV) (h:T Blk) (nx:Pa) (K:AV->T Blk->Pa->Out β):Out β:=aG m (λid=>rG (T.get .no id h) (λn l=>match xB kk k l with
        | some (some (i,v))=>mh i λi=>K (.tup [v,.int .i64 (.ofNat i)]) h nx
        | some none=>T.fw .no (.map (n+1) (l++[(k,zero)])) id h λh'=>K (.tup [zero,.int .i64 (.ofNat n)]) h' nx
        | none=>.no 46) (.no 46)) (.no 46) (.no 46)
def zoi (kk:KK) (zero:AV) (m k:Arg):EW β:=λ_ tm h nx K=>zsp kk zero (m.ev tm) (k.ev tm) h nx K
def zw1 (m:AV) (s:AV) (x:AV) (h:T Blk) (nx:Pa) (K:AV->T Blk->Pa->Out β):Out β:=aG m (λid=>asInt s (λ_ i=>rG (T.get .no id h) (λn l=>match i with
   | .ofNat i=>bif Nat.ble (Nat.succ i) n then T.fw .no (.map n (l.modify i λe=>(e.1,x))) id h λh'=>K .u h' nx else .no 47
   | _=>.no 47) (.no 47)) (.no 47)) (.no 47) (.no 47)
def zsq (m s x:Arg):EW β:=λ_ tm h nx K=>zw1 (m.ev tm) (s.ev tm) (x.ev tm) h nx K
def qag (esz bytes:Nat) (s x:Arg):EW β:=λ_ tm h nx K=>appA esz bytes (s.ev tm) (x.ev tm) h nx K
def zif (id:Pa) (off ln esz:Nat) (m:Nat) (t:T AV) (new:List AV) (n:Nat) (h:T Blk) (nx:Pa) (K:Kw β):Out β :=
 gZ new t m λt'=>mh (m+n*esz) λm'=>T.fw .no (.cells true m' t') id h λh'=>mh (ln+n) λq=>K (.sl id off q none esz) h' nx
def zj6 (C:Calls β) (id:Pa) (off ln e esz bytes:Nat) (x:AV) (h:T Blk) (nx:Pa) (K:Kw β):Out β :=
 wX x h (.no 30) λnew n=>bif Nat.ble (bytes*1000000) 70368744177664&&Nat.beq new.length (n*esz)&&Nat.ble 1 esz&&new.all uz then
  bif Nat.beq e esz&&Nat.ble (ln+n) 1000000 then
   qc (T.get .no id h) (λop m t=>bif Nat.ble (off+ln*esz) m then
    (bif Nat.ble (off+(ln+n)*esz) m then wJ id off ln none esz op m t new n h nx K
     else bif op&&Nat.beq (off+ln*esz) m then C.pk [0,1] λi=>bif Nat.beq i 0 then zif id off ln esz m t new n h nx K else wI off ln esz t new n h nx K
     else .no 33) else .no 34) (.no 35) else .no 36
  else .no 38
def zoj (C:Calls β) (esz bytes:Nat) (s x:AV) (h:T Blk) (nx:Pa) (K:Kw β):Out β :=
 tZ s (λid off ln cap e=>match cap with
  | some _=>appA esz bytes s x h nx K
  | none=>bif Nat.beq off 0 then appA esz bytes s x h nx K else zj6 C id off ln e esz bytes x h nx K)
  (appA esz bytes s x h nx K) (.no 37) (λ_=>.no 37) (λ_ _ _=>.no 37) (.no 37)
def zw2 (esz bytes:Nat) (s x:Arg):EW β:=λC tm h nx K=>zoj C esz bytes (s.ev tm) (x.ev tm) h nx K
def zok (esz bytes:Nat) (zero:List AV) (s x:AV) (h:T Blk) (nx:Pa) (K:AV->T Blk->Pa->Out β):Out β:=tZ s (λ_ _ _ _ _=>.no 39) (asInt x (λ_ n=>match n with
  | .ofNat n=>bif Nat.beq n 0 then .no 39 else bif Nat.ble n 1000000&&Nat.ble (bytes*1000000) 70368744177664&&Nat.ble 1 esz then
    yX true (nW n zero) h nx λid h' nx'=>K (.sl id 0 n none esz) h' nx'
   else .no 39
  | .negSucc _=>.no 39) (.no 39)) (.no 39) (λ_=>.no 39) (λ_ _ _=>.no 39) (.no 39)
def zw3 (esz bytes:Nat) (zero:List AV) (s x:Arg):EW β:=λ_ tm h nx K=>zok esz bytes zero (s.ev tm) (x.ev tm) h nx K
def qah (esz:Nat) (d:AV) (s:AV) (h:T Blk) (nx:Pa) (K:AV->T Blk->Pa->Out β):Out β:=wX s h (.no 48) λnew n=>tZ d
  (fun id off ln _ _=>mh (Nat.min n ln) fun q=>qc (T.get .no id h) (fun op m t=>bif Nat.ble (off+q*esz) m&&Nat.beq new.length (n*esz)&&new.all uz then
     gZ (new.take (q*esz)) t off λt'=>T.fw .no (.cells op m t') id h λh'=>K (.int .i64 (.ofNat q)) h' nx
    else .no 49) (.no 49)) (K (.int .i64 (.ofNat 0)) h nx) (.no 49) (λ_=>.no 49) (λ_ _ _=>.no 49) (.no 49)
def zw4 (esz:Nat) (d s:Arg):EW β:=λ_ tm h nx K=>qah esz (d.ev tm) (s.ev tm) h nx K
def zae (C:Calls β) (f:AV) (args:List AV) (h:T Blk) (nx:Pa) (K:AV->T Blk->Pa->Out β):Out β:=asFn f (λf p cap=>C.fn f p (args++cap) h nx K) (λid=>C.yld id args h nx K) (asBm f (λf p b=>C.fn f p (b++args) h nx K) (.no 51))
def zih (f:Arg) (args:List Arg):EW β:=λC tm h nx K=>zae C (f.ev tm) (args.map (Arg.ev · tm)) h nx K
def zol (x:AV) (h:T Blk) (nx:Pa) (K:AV->T Blk->Pa->Out β):Out β:=aG x (λid=>rG (T.get .no id h) (λk _=>T.fw .no (.iter id k [] k) nx h λh'=>K (.ptr nx 0) h' nx.succ) (.no 55)) (.no 55) (.no 55)
def zsr (x:Arg):EW β:=λ_ tm h nx K=>zol (x.ev tm) h nx K
def zf0 (k:Nat) (seen:List Nat):List Nat:=(List.range k).filter λi => !seen.contains i
def zuz (C:Calls β) (x:AV) (h:T Blk) (nx:Pa) (K:AV->T Blk->Pa->Out β):Out β:=rY x (λid off=>bif Nat.beq off 0 then aW (T.get .no id h) (λmid n seen _=>rG (T.get .no mid h) (λk l=>bif Nat.beq k n then (match zf0 k seen with
   | []=>K (.tup [.bool false]) h nx
   | i::is=>C.pk (i::is) λi=>match l[i]? with
    | some (a,b)=>T.fw .no (.iter mid n (i::seen) k) id h λh'=>K (.tup [.bool true,a,b]) h' nx
    | none=>.no 56) else .no 56) (.no 56)) (.no 56) else .no 56) (λ_=>.no 56) (.no 56)
def zw5 (x:Arg):EW β:=λC tm h nx K=>zuz C (x.ev tm) h nx K
def sClr (esz:Nat) (zero:List AV) (s:AV) (h:T Blk) (nx:Pa) (K:AV->T Blk->Pa->Out β):Out β:=tZ s
  (fun id off ln _ e=>bif Nat.beq e esz&&Nat.ble 1 ln then qc (T.get .no id h) (fun op m t=>bif Nat.ble (off+ln*esz) m&&Nat.beq zero.length esz&&zero.all uz then
     gZ (nW ln zero) t off λt'=>T.fw .no (.cells op m t') id h λh'=>K .u h' nx
    else .no 57) (.no 57) else bif Nat.beq ln 0 then K .u h nx else .no 57) (K .u h nx) (.no 57) (λ_=>.no 57) (λ_ _ _=>.no 57) (.no 57)
def qai (esz:Nat) (zero:List AV) (s:Arg):EW β:=λ_ tm h nx K=>sClr esz zero (s.ev tm) h nx K
def WO.ev (o:WO):EW β:=WO.rec (motive:=λ_=>EW β) qaf zsl zoh zlw zsm zsn zso zoi zsq qag zw4 zih zsr zw5 qai zw2 zw3 o
def mkB (o:WO) (tm:Tm):Bool:=match o with
 | .box x=>(x.ev tm).cells.isSome
 | .alloc _=>true
 | .cu _ ln zero ps=>(gL (nW ln zero) (j7 ps tm)).isSome
 | .af _ bytes _ ln cap=>match ln.ev tm,cap.ev tm with
  | .int _ (.ofNat l),.int _ (.ofNat c)=>Nat.ble l c&&Nat.ble c 1000000&&Nat.ble (bytes*c) 281474976710656
  | _,_=>false
 | .zak=>true
 | _=>false
def jT (g:Option (Arg×Bool)) (tm:Tm):Bool:=match g with
 | none=>true
 | some (a,want)=>match a.ev tm with
  | .bool b=>b==want
  | _=>false
def zw6 (_:AV) (tm:Tm) (k:Tm->Out β):Out β:=k tm
def zw7 (v:AV) (tm:Tm) (k:Tm->Out β):Out β:=Tm.rec (λt s=>k ⟨t,v::s⟩) tm
def zom (p:Pa) (v:AV) (tm:Tm) (k:Tm->Out β):Out β:=Tm.rec (λt s=>T.fw .u v p t λt'=>k ⟨t',s⟩) tm
def sP (d:Dst):AV->Tm->(Tm->Out β)->Out β:=Dst.rec zw6 zw7 zom d
abbrev Ks (β:Type):=T AV->T Blk->Pa->Out β
abbrev Kr (β:Type):=Tm->T Blk->Pa->Out β
abbrev ER (β:Type):=Calls β->Tm->T Blk->Pa->Kr β->Out β
def erS (op:PO):ER β:=λ_ tm h nx K=>op.ev tm h λv=>Tm.rec (λt s=>K ⟨t,v::s⟩ h nx) tm
def erQ (d:Pa) (op:PO):ER β:=λ_ tm h nx K=>op.ev tm h λv=>zom d v tm λtm'=>K tm' h nx
def gK (b:Bool) (op:(AV->Out β)->Out β) (k:AV->Out β):Out β:=bif b then op k else k .u
def gKW (b:Bool) (op:Kw β->Out β) (h:T Blk) (nx:Pa) (k:Kw β):Out β:=bif b then op k else k .u h nx
def gP (g:Option (Arg×Bool)) (tm:Tm) (op:(AV->Out β)->Out β) (k:AV->Out β):Out β:=Option.rec (motive:=λ_=>Out β) (op k) (λga=>gK (jT (some ga) tm) op k) g
def gW (g:Option (Arg×Bool)) (tm:Tm) (op:Kw β->Out β) (h:T Blk) (nx:Pa) (k:Kw β):Out β:=Option.rec (motive:=λ_=>Out β) (op k) (λga=>gKW (jT (some ga) tm) op h nx k) g
theorem zu0 (g:Option (Arg×Bool)) (tm:Tm) (op:(AV->Out β)->Out β) (k:AV->Out β):gP g tm op k=bif jT g tm then op k else k .u:=by cases g <;> rfl
theorem zu1 (g:Option (Arg×Bool)) (tm:Tm) (op:Kw β->Out β) (h:T Blk) (nx:Pa) (k:Kw β):gW g tm op h nx k=bif jT g tm then op k else k .u h nx:=by cases g <;> rfl
def erP (d:Dst) (g:Option (Arg×Bool)) (op:PO):ER β:=λ_ tm h nx K=>gP g tm (op.ev tm h) λv=>sP d v tm λtm'=>K tm' h nx
def erW (d:Dst) (g:Option (Arg×Bool)) (op:WO):ER β:=λC tm h nx K=>gW g tm (op.ev C tm h nx) h nx λv h' nx'=>sP d v tm λtm'=>K tm' h' nx'
def RO.ev (o:RO):ER β:=RO.rec (motive:=λ_=>ER β) erS erQ erP erW o
def qaj:ER β:=λ_ tm h nx K=>K tm h nx
def zw8 (o:RO) (_:List RO) (ih:ER β):ER β:=λC tm h nx K=>o.ev C tm h nx λtm h nx=>ih C tm h nx K
def yG (l:List RO):ER β:=List.rec (motive:=λ_=>ER β) qaj zw8 l
structure ay where
 op:PO
 tm:Tm
 v:AV
 n:Nat
def paEq:Pa->Pa->Bool
 | .z,.z=>true
 | .l p,.l q=>paEq p q
 | .r p,.r q=>paEq p q
 | _,_=>false
def zj7:Option Nat->Option Nat->Bool
 | none,none=>true
 | some a,some b=>Nat.beq a b
 | _,_=>false
mutual
def aX:AV->AV->Bool
 | .bool a,.bool b=>a==b
 | .int k a,.int k' b=>xO k k'&&ieq a b
 | .str a,.str b=>gN a b
 | .sM,.sM | .za,.za | .sO,.sO | .sw,.sw | .esl,.esl=>true
 | .ptr a o,.ptr b p=>paEq a b&&Nat.beq o p
 | .sl a o l c e,.sl a' o' l' c' e'=>paEq a a'&&Nat.beq o o'&&Nat.beq l l'&&zj7 c c'&&Nat.beq e e'
 | .map a,.map b=>paEq a b
 | .fn f p c,.fn f' p' c'=>Nat.beq f f'&&paEq p p'&&xW c c'
 | .bm f p c,.bm f' p' c'=>Nat.beq f f'&&paEq p p'&&xW c c'
 | .yld a,.yld b=>paEq a b
 | .agg a,.agg b=>xW a b
 | .tup a,.tup b=>xW a b
 | .lst e n a,.lst e' n' b=>Nat.beq e e'&&Nat.beq n n'&&xW a b
 | .fp a,.fp b=>xW a b
 | _,_=>false
def xW:List AV->List AV->Bool
 | [],[]=>true
 | a::l,b::m=>aX a b&&xW l m
 | _,_=>false
end
def q8 (h:T Blk):List ay->Out β->Out β
 | [],k=>k
 | p::ps,k=>p.op.ev p.tm h λv=>bif aX v p.v then q8 h ps k else .no 90
def oH:List ay->List ay
 | []=>[]
 | p::ps=>bif Nat.ble p.n 1 then oH ps else ⟨p.op,p.tm,p.v,Nat.sub p.n 1⟩::oH ps
def addP (c:Nat) (op:PO) (tm:Tm) (v:AV) (ps:List ay):List ay:=bif Nat.beq c 0 then ps else ⟨op,tm,v,c⟩::ps
def aA (cs:List WO) (tm:Tm) (k:Out β):Out β:=List.rec (motive:=λ_=>Out β) k (λ_ _ _=>bif cs.all (λo=>mkB o tm) then k else .no 91) cs
def evD:List (RO×Nat×List WO)->List ay->ER β
 | [],_=>λ_ tm h nx K=>K tm h nx
 |(.s op,c,cs)::l,ps=>λC tm h nx K=>op.ev tm h λv=>aA cs ⟨tm.v,v::tm.s⟩ (evD l (addP c op tm v ps) C ⟨tm.v,v::tm.s⟩ h nx K)
 |(.q d op,c,cs)::l,ps=>λC tm h nx K=>op.ev tm h λv=>zom d v tm λtm'=>aA cs tm' (evD l (addP c op tm v ps) C tm' h nx K)
 |(.p d g op,c,cs)::l,ps=>λC tm h nx K=>Nat.rec (motive:=λ_=>Out β) (gP g tm (op.ev tm h) λv=>sP d v tm λtm'=>aA cs tm' (evD l ps C tm' h nx K))
   (λc _=>bif jT g tm then op.ev tm h λv=>sP d v tm λtm'=>aA cs tm' (evD l (addP (Nat.succ c) op tm v ps) C tm' h nx K)
    else sP d .u tm λtm'=>aA cs tm' (evD l ps C tm' h nx K)) c
 |(.w d g op,_,cs)::l,ps=>λC tm h nx K=>gW g tm (λk=>op.ev C tm h nx λv h' nx'=>q8 h' ps (k v h' nx')) h nx λv h' nx'=>sP d v tm λtm'=>aA cs tm' (evD l (oH ps) C tm' h' nx' K)
structure fQ (β:Type) where
 ex:Nat->Ks β
 rt:Ks β
abbrev EI (β:Type):=Calls β->Nat->fQ β->Ks β->Ks β
def zw9:EI β:=λ_ _ _ K=>K
def zon (l:List RO):EI β:=λC _ _ K tm h nx=>yG l C ⟨tm,[]⟩ h nx λtm h nx=>Tm.rec (λt _=>K t h nx) tm
def zoo (c0:List WO) (l:List (RO×Nat×List WO)):EI β:=λC _ _ K tm h nx=>aA c0 ⟨tm,[]⟩ (evD l [] C ⟨tm,[]⟩ h nx λtm h nx=>Tm.rec (λt _=>K t h nx) tm)
def qak (_ _:IR) (iha ihb:EI β):EI β:=λC n O K=>iha C n O (ihb C n O K)
def zxa (c:Arg) (_ _:IR) (iha ihb:EI β):EI β:=λC n O K tm h nx=>asBool (c.ev ⟨tm,[]⟩) (λt=>Bool.rec (ihb C n O K tm h nx) (iha C n O K tm h nx) t) (.no 60)
def zss (id:Nat) (_:IR) (ih:EI β):EI β:=λC n O K=>ih C n { O with ex:=λi=>bif Nat.beq i id then K else O.ex i } K
def zxb (_:IR) (ih:EI β):EI β:=λC n O _=>Nat.rec (motive:=λ_=>Ks β) (λ_ _ _=>.no 61) (λ_ ihn=>ih C n O ihn) n
def zf1 (O:fQ β) (K:Ks β) (st:LSt) (j:Jump):Ks β:=match st with
 | .busy=>λ_ _ _=>.no 62
 | _=>match j with
  | .none=>K
  | .ret=>O.rt
  | .exit id=>O.ex id
def eiRf (f:Arg) (ps:List Pa) (a b:IR) (_ _:EI β):EI β:=λC _ O K tm h nx =>
 T.fw .no (.loop .ready .none tm ps a b) nx h λh' =>
  asFn (f.ev ⟨tm,[]⟩) (λf p cap=>C.fn f p (AV.yld nx::cap) h' nx.succ λ_ h nx'=>p5 (T.get .no nx h) (λst j _ _ _ _=>T.fw .no .no nx h λh=>zf1 O K st j tm h nx') (.no 63)) (λ_=>.no 64) (.no 64)
def zxc (id:Nat):EI β:=λ_ _ O _=>O.ex id
def qal:EI β:=λ_ _ O _=>O.rt
def qam (n:Nat):EI β:=λ_ _ _ _ _ _ _=>.no (100+n)
def IR.run (c:IR):EI β:=IR.rec (motive:=λ_=>EI β) zw9 zon zoo qak zxa zss zxb eiRf zxc qal qam c
def resA (l:List RV) (tm:T AV) (h:T Blk) (K:List AV->Out β):Out β :=
 List.rec (motive:=λ_=>(List AV->Out β)->Out β) (λK=>K [])
  (fun r _ ih K=>match r with
   | .t p=>ih λl=>K (T.get .u p tm::l)
   | .cell p sz=>match sz with
    | some s=>zdy s (.t p) ⟨tm,[]⟩ h λv=>ih λl=>K (v::l)
    | none=>zan (.t p) ⟨tm,[]⟩ h λv=>ih λl=>K (v::l)) l K
def resV:List AV->AV
 | [v]=>v
 | l=>.tup l
def zS (fns:T (Option Fn)) (fuel:Nat) (C:Calls β) (p:Pa) (args:List AV) (h:T Blk) (nx:Pa) (K:Kw β):Out β :=
 Option.rec (motive:=λ_=>Out β) (.no 83) (λF=>kM F.params args F.init λtm =>
  F.body.run C fuel ⟨λ_ _ _ _=>.no 82,λtm h nx=>resA F.res tm h λl=>K (resV l) h nx⟩ (λtm h nx=>resA F.res tm h λl=>K (resV l) h nx) tm h nx) (T.get none p fns)
def vX (id:Pa) (K:Kw β) (j:Jump) (v:Bool):Ks β:=λ_ h nx =>
 p5 (T.get .no id h) (λ_ _ tm ps a b=>T.fw .no (.loop (bif v then .ready else .done) j tm ps a b) id h λh'=>K (.bool v) h' nx) (.no 84)
def zd1 (fuel:Nat) (C:Calls β) (id:Pa) (args:List AV) (h:T Blk) (nx:Pa) (K:Kw β):Out β :=
 p5 (T.get .no id h) (λ_ _ tm ps a b=>kM ps args tm λtm' =>
  a.run C fuel ⟨λ_ _ _ _=>.no 85,λ_ _ _=>.no 85⟩ (λtm'' h nx =>
   p5 (T.get .no id h) (λst j tm ps x y=>match st with
    | .ready=>T.fw .no (.loop .busy j tm ps x y) id h λh' =>
      b.run C fuel ⟨λi=>vX id K (.exit i) false,vX id K .ret false⟩ (vX id K .none true) tm'' h' nx
    | _=>.no 86) (.no 86)) tm' h nx) (.no 87)
end
end Go.Ev
namespace Go.Ev
open Go
def og:Nat->Value->Option AV
 | 0,_=>none
 | d+1,v=>match v with
  | .bool b=>some (.bool b)
  | .int k n=>some (.int k n)
  | .string s=>some (.str s.data.toList)
  | .pointer none=>some .sM
  | .slice none 0 0=>some .za
  | .map none=>some .sO
  | .nilFunc=>some .sw
  | .agg cs=>match cs.toList.mapM (og d) with
   | some l=>bif l.all uz then some (.agg l) else none
   | none=>none
  | .tuple cs=>(cs.toList.mapM (og d)).map .tup
  | _=>none
section
variable (P:Program)
def dP (t:TypeId):Option (Option Nat) :=
 match P.underlying t with
 | some (.struct _) | some (.array _ _)=>(P.info? t).map λi=>some i.size
 | some _=>some none
 | none=>none
def rO (t:TypeId):Option Nat:=(P.info? t).map (·.size)
def gX (t:TypeId):Option AV:=((P.info? t).bind (·.zero)).bind (og 8)
def isInt (t:TypeId):Bool:=match P.underlying t with | some (.int _)=>true | _=>false
variable (loc st:List Nat)
def sF (t:Nat):Option Pa:=(loc.findIdx? (Nat.beq t)).map .of
def dmy:Nat:=4294967295
def yo:Operand->Option Arg
 | .tmp t=>bif Nat.beq t dmy then none else match sF loc t with
  | some p=>some (.t p)
  | none=>(st.findIdx? (Nat.beq t)).map .s
 | .const v=>(og 8 v).map .c
 | .func f=>some (.c (.fn f (.of f) []))
 | .global g=>match layG g with
  | []=>none
  | _::_=>some (.c (.fp (layL g)))
def sQ:Option Operand->Option (Option Arg)
 | none=>some none
 | some x=>(yo loc st x).map some
def vQ (l:Array Operand):Option (List Arg):=l.toList.mapM (yo loc st)
def gV (place:Nat->Option (Nat×Nat)) (l:List (Nat×Operand)):Option (List (Nat×Nat×Arg)) :=
 l.mapM λ(i,x)=>match place i,yo loc st x with
  | some (o,s),some a=>some (o,s,a)
  | _,_=>none
def qC (fs:Array Field) (i:Nat):Option (Nat×Nat):=match fs[i]? with
 | some f=>(rO P f.type).map λs=>(f.offset,s)
 | none=>none
def wC (t:TypeId):Option KK:=match P.underlying t with
 | some (.int _)=>some .int
 | some .string=>some .str
 | some .bool=>some .bool
 | some (.array n e)=>match isInt P e,rO P e with
  | true,some 1=>some (.agg n)
  | _,_=>none
 | _=>none
def poA (o:Op):Option PO :=
 match o with
 | .move x | .assign x=>(yo loc st x).map .mv
 | .pick c a b=>match yo loc st c,yo loc st a,yo loc st b with
  | some c,some a,some b=>some (.pick c a b)
  | _,_,_=>none
 | .build t ps=>match gX P t,P.underlying t with
  | some z,some (.struct fs)=>match bif fs.toList.all (λf=>(P.info? f.type).isSome) then z.cells else none,gV loc st (qC P fs) ps.toList with
   | some z,some ps=>some (.build z ps)
   | _,_=>none
  | some z,some (.array _ e)=>match rO P e with
   | some s=>match z.cells,gV loc st (λi=>some (i*s,s)) ps.toList with
    | some z,some ps=>some (.build z ps)
    | _,_=>none
   | none=>none
  | _,_=>none
 | .field t x i=>match P.underlying t,yo loc st x with
  | some (.struct fs),some x=>match fs[i]? with
   | some f=>(dP P f.type).map λs=>.part f.offset s x
   | none=>none
  | _,_=>none
 | .extract x i=>(yo loc st x).map (.ext i)
 | .binOp op t x y _=>match yo loc st x,yo loc st y with
  | some x,some y=>match P.underlying t with
   | some (.int _)=>some (.bin op .int x y)
   | some .string=>some (.bin op .str x y)
   | some .bool=>some (.bin op .bool x y)
   | some (.slice _)=>some (.bin op (.nil .sl) x y)
   | some (.map _ _)=>some (.bin op (.nil .mp) x y)
   | some (.func _ _ _)=>some (.bin op (.nil .fn) x y)
   | some (.pointer _)=>some (.bin op (.nil .pt) x y)
   | some (.array n e)=>match isInt P e,rO P e with
    | true,some 1=>some (.bin op (.agg n) x y)
    | _,_=>none
   | _=>none
  | _,_=>none
 | .unOp op _ x=>match op,yo loc st x with
  | .neg,some x=>some (.neg x)
  | .not,some x=>some (.not x)
  | _,_=>none
 | .convert s d x=>match yo loc st x with
  | some x=>match P.underlying s,P.underlying d with
   | some (.int _),some (.int k)=>some (.conv k x)
   | some (.slice e),some .string=>match P.underlying e with
    | some (.int .u8)=>some (.b2s x)
    | _=>none
   | _,_=>none
  | none=>none
 | .load t x=>match yo loc st x,dP P t with
  | some x,some none=>some (.load x)
  | some x,some (some s)=>some (.zk s x)
  | _,_=>none
 | .makeFunc (.func f) first cap=>match first.size,vQ loc st cap with
  | 0,some c=>some (.fn f (.of f) c)
  | _,_=>none
 | .slice t x lo hi mx=>match P.underlying t,yo loc st x,sQ loc st lo,sQ loc st hi,sQ loc st mx with
  | some .string,some x,some lo,some hi,some none=>some (.zai x lo hi)
  | some (.slice e),some x,some lo,some hi,some mx=>(rO P e).map λs=>.slice s x lo hi mx
  | some (.array n e),some x,some lo,some hi,some mx=>(rO P e).map λs=>.aslice s n x lo hi mx
  | _,_,_,_,_=>none
 | .fieldAddr t x i=>match P.underlying t,yo loc st x with
  | some (.struct fs),some x=>match fs[i]? with
   | some f=>match rO P f.type with
    | some (_+1)=>some (.zfy f.offset x)
    | _=>none
   | none=>none
  | _,_=>none
 | .indexAddr t x i=>match yo loc st x,yo loc st i with
  | some x,some i=>match P.underlying t with
   | some (.array n e)=>(rO P e).map λs=>.zfz s n x i
   | some (.slice e)=>(rO P e).map λs=>.ax s x i
   | _=>none
  | _,_=>none
 | .index t x i=>match yo loc st x,yo loc st i with
  | some x,some i=>match P.underlying t with
   | some .string=>some (.sidx x i)
   | _=>none
  | _,_=>none
 | .lookup t m k ok=>match yo loc st m,yo loc st k with
  | some m,some k=>match P.underlying t with
   | some (.map kt e)=>match wC P kt,gX P e with
    | some q,some z=>some (.look q z ok m k)
    | _,_=>none
   | _=>none
  | _,_=>none
 | .call { callee:=.builtin b,args,argTypes }=>match b,args.toList with
  | .len,[x]=>match yo loc st x,(argTypes[0]?).bind P.underlying with
   | some x,some .string=>some (.slen x)
   | some x,some (.slice _)=>some (.len x)
   | _,some (.array n _)=>some (.mv (.c (.int .i64 n)))
   | _,_=>none
  | .cap,[x]=>match yo loc st x,(argTypes[0]?).bind P.underlying with
   | some x,some (.slice _)=>some (.capz x)
   | _,_=>none
  | .min,x::xs=>match yo loc st x,xs.mapM (yo loc st) with
   | some x,some xs=>some (.zaj false x xs)
   | _,_=>none
  | .max,x::xs=>match yo loc st x,xs.mapM (yo loc st) with
   | some x,some xs=>some (.zaj true x xs)
   | _,_=>none
  | _,_=>none
 | _=>none
def woA (o:Op):Option WO :=
 match o with
 | .alloc t=>match gX P t with
  | some z=>z.cells.map .alloc
  | none=>none
 | .box _ x=>(yo loc st x).map .box
 | .buildSlice t n ps=>match P.underlying t with
  | some (.slice e)=>match rO P e,gX P e with
   | some s,some z=>match Nat.ble (n*s) 16777216,gV loc st (λi=>some (i*s,s)) ps.toList,z.cells with
    | true,some ps,some z=>bif Nat.beq z.length s then some (.cu s n z ps) else none
    | _,_,_=>none
   | _,_=>none
  | _=>none
 | .store t a x=>match rO P t,yo loc st a,yo loc st x with
  | some s,some a,some x=>some (.store s a x)
  | _,_,_=>none
 | .makeMap _ none=>some .zak
 | .makeSlice t l c=>match P.underlying t with
  | some (.slice e)=>match P.info? e,gX P e,yo loc st l,yo loc st c with
   | some i,some z,some l,some c=>match z.cells with
    | some z=>bif Nat.beq z.length i.size then some (.af i.size i.bytes z l c) else none
    | none=>none
   | _,_,_,_=>none
  | _=>none
 | .mapUpdate t m k x | .insert t m k x=>match yo loc st m,yo loc st k,yo loc st x with
  | some m,some k,some x=>match P.underlying t with
   | some (.map kt _)=>match wC P kt with
    | some q=>some (.zn5 q m k x)
    | none=>none
   | _=>none
  | _,_,_=>none
 | .call { callee:=.builtin b,args,argTypes }=>match b,args.toList with
  | .append,[s,x]=>match yo loc st s,yo loc st x,(argTypes[0]?).bind P.underlying,(argTypes[1]?).bind P.underlying with
   | some s,some x,some (.slice e),some (.slice _) | some s,some x,some (.slice e),some .string=>match P.info? e,(gX P e).bind AV.cells with
    | some i,some z=>bif Nat.beq z.length i.size then some (bif Nat.beq i.bytes 32 then .appq i.size i.bytes s x else .app i.size i.bytes s x) else none
    | _,_=>none
   | some s,some x,some (.slice e),some (.int _)=>match P.info? e,(gX P e).bind AV.cells with
    | some i,some z=>bif Nat.beq z.length i.size then some (.appm i.size i.bytes z s x) else none
    | _,_=>none
   | _,_,_,_=>none
  | _,_=>none
 | .call { callee:=.value f,args,.. }=>match yo loc st f,vQ loc st args with
  | some f,some args=>some (.call f args)
  | _,_=>none
 | _=>none
def qE (ops:Array Oper) (o:Oper):Option (Option (Arg×Bool)):=match o.guard with
  | none=>some none
  | some (j,w)=>match (ops[j]?).bind (·.dst) with
   | some t=>(yo loc st (.tmp t)).map λa=>some (a,w)
   | none=>none
variable (N:Nat)
def aB:Option Nat->Option (Dst×List Nat)
 | none=>some (.none,st)
 | some t=>match Nat.ble (t+1) N,sF loc t with
  | true,some p=>some (.loc p,st)
  | true,none=>bif st.any (Nat.beq t) then none else some (.push,t::st)
  | false,_=>none
def roA (ops:Array Oper) (o:Oper):Option (RO×List Nat) :=
 match qE loc st ops o,aB loc st N o.dst with
 | some g,some (d,st')=>match poA P loc st o.op with
  | some p=>match d,g with
   | .push,none=>some (.s p,st')
   | .loc d,none=>some (.q d p,st')
   | d,g=>some (.p d g p,st')
  | none=>match woA P loc st o.op with
   | some p=>some (.w d g p,st')
   | none=>none
 | _,_=>none
def rosA (ops:Array Oper):List Oper->List Nat->Option (List RO)
 | [],_=>some []
 | o::l,st=>match roA P loc st N ops o with
  | some (r,st')=>match rosA ops l st' with
   | some rs=>some (r::rs)
   | none=>none
  | none=>none
def xC (o:Oper):List Nat:=(o.after.toList.filter (Region.binds .any)).map (·.on)
def fD (acc:List Nat) (o:Oper):Nat:=(xC o).foldl (λm j=>m ||| (2 ^ j ||| acc.getD j 0)) 0
def rA:List Oper->List Nat->List Nat
 | [],acc=>acc
 | o::l,acc=>rA l (acc++[fD acc o])
def uS:List Oper->Nat->Bool
 | [],_=>true
 | o::l,j=>(xC o).all (λe=>Nat.ble (e+1) j)&&uS l (j+1)
def zcp:Op->Bool
 | .alloc _ | .box .. | .buildSlice .. | .store .. | .makeMap .. | .makeSlice .. | .mapUpdate .. | .insert .. | .mapEntry .. | .entryStore .. | .range .. | .next .. => true
 | .call { callee:=.builtin b,.. }=>match b with
  | .append | .copy | .clear=>true
  | _=>false
 | .call _=>true
 | _=>false
def isMk:Op->Bool
 | .alloc _ | .box .. | .buildSlice .. | .makeMap .. | .makeSlice .. => true
 | _=>false
def gJ (ops:Array Oper) (j:Nat):Bool:=match ops[j]? with
 | some o=>zcp o.op
 | none=>false
def bX (ops:Array Oper) (o:Oper):List Nat:=o.dst.toList++o.looksAt ops
def zaq (ops:Array Oper) (x y:Oper):Bool:=x.dst.any (λt=>(bX ops y).any (Nat.beq t))||y.dst.any (λt=>(bX ops x).any (Nat.beq t))
def vK (ops:Array Oper) (an:List Nat):Bool :=
 (List.range ops.size).all λj=>match ops[j]? with
  | some y=>(List.range j).all λi=>match ops[i]? with
   | some x=>bif zaq ops x y then (an.getD j 0).testBit i else true
   | none=>false
  | none=>false
def zd2 (ops:Array Oper) (i:Nat):Bool:=match ops[i]? with
 | some o=>isMk o.op
 | none=>false
def oW (ops:Array Oper) (an:List Nat) (j:Nat):Bool:=match ops[j]? with
 | some o=>isMk o.op&&o.guard.isNone&&(List.range ops.size).all (λi => !((an.getD j 0).testBit i&&zd2 ops i)) &&
   (List.range ops.size).any (λi=>gJ ops i && !Nat.beq i j && !(an.getD j 0).testBit i && !(an.getD i 0).testBit j)
 | none=>false
def wlA (an fr:List Nat):List Nat->Nat->List Nat
 | [],pl=>fr.filter λf => !pl.testBit f
 | w::ws,pl=>(fr.filter λf => !pl.testBit f&&(an.getD w 0).testBit f)++w::wlA an fr ws (pl ||| an.getD w 0)
def posA (an:List Nat) (j:Nat):List Nat->Nat->Nat->Nat->Nat×Nat
 | [],_,k,d=>(k,d)
 | w::ws,i,k,d=>posA an j ws (i+1) (bif (an.getD j 0).testBit w then i+1 else k) (bif (an.getD w 0).testBit j then d else i+1)
def qan (ops:Array Oper) (an wl:List Nat):List (Nat×Nat) :=
 (fun rs=>(List.range (wl.length+1)).flatMap fun k=>(rs.filter fun (r:Nat×Nat×Nat)=>Nat.beq r.2.1 k).map (fun r=>(r.1,r.2.2-r.2.1))++match wl[k]? with
   | some w=>[(w,0)]
   | none=>[])
  (((List.range ops.size).filter λj => !gJ ops j).map λj=>(j,posA an j wl 0 0 0))
def permA (ops:Array Oper) (an fr:List Nat):List (Nat×Nat):=qan ops an (wlA an fr ((List.range ops.size).filter λj=>gJ ops j && !fr.any (Nat.beq j)) 0)
def uY (ops:Array Oper) (an fr:List Nat):List (Nat×Nat)->Nat->Nat->Nat->Nat->Bool
 | [],_,_,_,_=>true
 |(y,c)::l,done,qf,qy,fp=>Nat.beq ((an.getD y 0) &&& done) (an.getD y 0) && !done.testBit y&&Nat.ble (y+1) ops.size &&
  bif gJ ops y then (bif fr.any (Nat.beq y) then uY ops an fr l (done ||| 2 ^ y) (qf ||| 2 ^ y) qy (fp ||| 2 ^ y)
   else Nat.beq ((an.getD y 0) &&& qy) qy&&Nat.beq ((an.getD y 0) &&& fp) fp&&uY ops an fr l (done ||| 2 ^ y) (qf ||| 2 ^ y) (qy ||| 2 ^ y) 0)
  else Nat.beq ((an.getD y 0) &&& qf) qf&&((l.filter λz=>gJ ops z.1).drop c).all (λz=>(an.getD z.1 0).testBit y)&&uY ops an fr l (done ||| 2 ^ y) qf qy fp
def isW:RO->Bool
 | .w .. => true
 | _=>false
def chkO (ops:Array Oper) (st:List Nat) (f:Nat):Option WO:=match ops[f]? with
 | some o=>woA P loc st o.op
 | none=>none
def chkA (ops:Array Oper) (st:List Nat) (fs:List Nat):Option (List WO):=fs.mapM (chkO P loc ops st)
def nowA (an fr:List Nat) (done done':Nat):List Nat:=fr.filter λf=>Nat.beq ((an.getD f 0) &&& done') (an.getD f 0) && !Nat.beq ((an.getD f 0) &&& done) (an.getD f 0)
def rosP (ops:Array Oper) (an fr:List Nat):List (Nat×Nat)->List Nat->Nat->Option (List (RO×Nat×List WO))
 | [],_,_=>some []
 |(j,c)::l,st,done=>match ops[j]? with
  | some o=>match roA P loc st N ops o with
   | some (r,st')=>bif isW r==zcp o.op then match chkA P loc ops st' (nowA an fr done (done ||| 2 ^ j)),rosP ops an fr l st' (done ||| 2 ^ j) with
     | some cs,some rs=>some ((r,c,cs)::rs)
     | _,_=>none
    else none
   | none=>none
  | none=>none
def zu3 (ops:Array Oper) (an fr:List Nat):Option (List WO×List (RO×Nat×List WO)) :=
 bif uS ops.toList 0&&vK ops an&&fr.all (oW ops an)&&(List.range ops.size).all (λi=>(permA ops an fr).any λz=>Nat.beq z.1 i)&&uY ops an fr (permA ops an fr) 0 0 0 0
 then match chkA P loc ops [] (fr.filter λf=>Nat.beq (an.getD f 0) 0),rosP P loc N ops an fr (permA ops an fr) [] 0 with
  | some cs,some rs=>some (cs,rs)
  | _,_=>none
 else none
def zop (ops:Array Oper):Option (List WO×List (RO×Nat×List WO)) :=
 zu3 P loc N ops (rA ops.toList []) ((List.range ops.size).filter (oW ops (rA ops.toList [])))
def irA:Code->IR
 | .skip=>.skip
 | .region id ops d=>match d with
  | true=>match zop P loc N ops with
   | some (cs,l)=>.sD cs l
   | none=>.bad id
  | false=>match rosA P loc N ops ops.toList [] with
   | some l=>.reg l
   | none=>.bad id
 | .seq a b=>.seq (irA a) (irA b)
 | .cond c a b=>match yo loc [] c with
  | some c=>.cond c (irA a) (irA b)
  | none=>.bad 900
 | .block id b=>.block id (irA b)
 | .loop b=>.loop (irA b)
 | .rangeFunc f ps a b=>match yo loc [] f,ps.toList.mapM (sF loc) with
  | some f,some ps=>.rf f ps (irA a) (irA b)
  | _,_=>.bad 901
 | .exit id=>.exit id
 | .scope b=>irA b
 | .label _=>.skip
 | .goto _=>.bad 902
 | .ret=>.ret
 | .refuse _=>.bad 903
def rvA:ResultVar->Option RV
 | .tmp t=>bif Nat.beq t dmy then none else (sF loc t).map .t
 | .cell a t=>match (bif Nat.beq a dmy then none else sF loc a),dP P t with
  | some p,some s=>some (.cell p s)
  | _,_=>none
end
section
variable (P:Program)
def kX (loc:List Nat):Nat->Option (List Pa)
 | 0=>some []
 | n+1=>match kX loc n,sF loc n with
  | some l,some p=>some (l++[p])
  | _,_=>none
def zj8 (n:Nat):T AV:=Nat.rec .e (λk t=>T.fw .u .u (.of k) t λt=>t) n
def fnA (f:Func) (loc:List Nat):Option Fn :=
 match loc.all (λt=>Nat.ble (t+1) f.ntmps)&&Nat.ble (f.params.size+f.nfree) f.ntmps,f.body,f.results.toList.mapM (rvA P loc),kX loc (f.params.size+f.nfree) with
 | true,some b,some r,some ps=>some { params:=ps,res:=r,body:=irA P loc f.ntmps b,init:=zj8 loc.length }
 | _,_,_,_=>none
end
end Go.Ev
