import Derived.CallsIn
import Derived.OrdersIn
set_option linter.unusedSimpArgs false
set_option linter.unusedVariables false
noncomputable section
namespace Go.Ev
abbrev Zaa := @List.getD_eq_getElem?_getD
abbrev Zab := @decide_eq_false
abbrev Zac := @decide_eq_true
abbrev Zad := @List.mem_of_getElem?
abbrev Zae := @List.length_append
abbrev Zaf := @Nat.le_refl
abbrev Zag := @Nat.ble_eq_true_of_le
abbrev Zah := @List.length_map
abbrev Zai := @List.length_take
abbrev Zaj := @List.mem_cons_self
abbrev Zak := @List.mem_singleton
abbrev Zal := @Bool.and_eq_true
abbrev Zam := @List.mem_cons_of_mem
abbrev Zan := @Bool.not_false
abbrev Zao := @List.mem_cons
abbrev Zap := @Bool.not_true
abbrev Zaq := @List.take_of_length_le
abbrev Zar := @List.mem_append
abbrev Zas := @List.length_set
abbrev Zat := @List.take_add_one
abbrev Zau := @List.length_replicate
abbrev Zav := @List.getElem_mem
abbrev Zaw := @List.all_eq_true
abbrev Zax := @Nat.le_trans
abbrev Zay := @List.mem_map
abbrev Zaz := @List.map_append
abbrev Zba := @Option.map_eq_some_iff
abbrev Zbb := @List.length_cons
abbrev Zbc := @Nat.mul_le_mul_right
abbrev Zbd := @Nat.add_mul
abbrev Zbe := @Nat.zero_add
abbrev Zbf := @List.length_singleton
abbrev Zbg := @List.drop_eq_getElem_cons
abbrev Zbh := @List.append_nil
abbrev Zbi := @List.mem_iff_getElem?
abbrev Zbj := @Rat.zero_mul
abbrev Zbk := @Int.natAbs_natCast
abbrev Zbl := @List.nil_append
abbrev Zbm := @List.ext_getElem?
abbrev Zbn := @List.mem_flatMap
abbrev Zbo := @List.append_assoc
abbrev Zbp := @Nat.min_eq_left
abbrev Zbq := @List.length_reverse
abbrev Zbr := @List.drop_of_length_le
abbrev Zbs := @List.mem_or_eq_of_mem_set
abbrev Zbt := @Array.getD_eq_getD_getElem?
abbrev Zbu := @Nat.mul_comm
abbrev Zbv := @Nat.beq_refl
abbrev Zbw := @List.mem_append_left
abbrev Zbx := @Rat.mul_zero
abbrev Zby := @Nat.mul_one
abbrev Zbz := @Nat.add_sub_cancel_left
abbrev Zca := @List.cons_append
abbrev Zcb := @Nat.mul_le_mul
abbrev Zcc := @Int.natAbs_mul
abbrev Zcd := @List.length_drop
abbrev Zce := @List.flatMap_cons
abbrev Zcf := @List.mapM_cons
abbrev Zcg := @Rat.intCast_mul
abbrev Zch := @Nat.mod_eq_of_lt
abbrev Zci := @List.filter_cons
abbrev Zcj := @Nat.sub_self
abbrev Zck := @List.nodup_append
abbrev Zcl := @Array.toArray_toList
abbrev Zcm := @Nat.lt_of_lt_of_le
abbrev Zcn := @Nat.div_le_self
abbrev Zco := @Int.mul_le_mul_of_nonneg_right
abbrev Zcp := @List.length_zipWith
abbrev Zcq := @Nat.add_assoc
abbrev Zcr := @List.mem_append_right
abbrev Zcs := @List.drop_zero
abbrev Zct := @Rat.num_eq_zero
abbrev Zcu := @Rat.intCast_neg
abbrev Zcv := @List.append_of_mem
abbrev Zcw := @List.map_singleton
abbrev Zcx := @List.take_length
abbrev Zcy := @Nat.pow_le_pow_right
abbrev Zcz := @Nat.lt_or_ge
abbrev Zda := @List.set_set
abbrev Zdb := @List.eq_nil_of_length_eq_zero
abbrev Zdc := @Nat.add_comm
abbrev Zdd := @List.perm_middle
abbrev Zde := @Nat.pow_succ
abbrev Zdf := @Nat.lt_of_le_of_lt
abbrev Zdg := @Nat.lt_irrefl
abbrev Zdh := @Nat.one_mul
abbrev Zdi := @Bool.or_eq_true
abbrev Zdj := @List.set_eq_take_append_cons_drop
abbrev Zdk := @Nat.mod_lt
abbrev Zdl := @List.perm_append_singleton
abbrev Zdm := @List.mem_range
abbrev Zdn := @Option.toList_some
abbrev Zdo := @Option.map_some
abbrev Zdp := @Int.mul_le_mul_of_nonneg_left
abbrev Zdq := @Nat.mul_le_mul_left
abbrev Zdr := @Int.natAbs_neg
abbrev Zds := @List.take_zero
abbrev Zdt := @Nat.mul_lt_mul''
abbrev Zdu := @Rat.add_zero
abbrev Zdv := @List.mem_filter
abbrev Zdw := @Int.mul_nonneg_of_nonpos_of_nonpos
abbrev Zdx := @List.length_range
abbrev Zdy := @Int.natAbs_add_le
abbrev Zdz := @Nat.lt_succ_of_lt
abbrev Zea := @Int.ofNat_eq_natCast
abbrev Zeb := @List.mem_of_mem_take
abbrev Zec := @Nat.mul_assoc
abbrev Zed := @Bool.false_eq_true
abbrev Zee := @List.foldl_cons
abbrev Zef := @List.range_succ
abbrev Zeg := @List.take_left'
abbrev Zeh := @Nat.zero_le
abbrev Zei := @Nat.mul_add
abbrev Zej := @Int.natAbs_ediv_of_dvd
abbrev Zek := @Nat.pow_add
abbrev Zel := @Nat.add_zero
abbrev Zem := @List.take_append_drop
abbrev Zen := @Nat.testBit_or
abbrev Zeo := @List.drop_drop
abbrev Zep := @Int.pow_nonneg
abbrev Zeq := @List.set_append_right
abbrev Zer := @Bool.or_eq_false_iff
abbrev Zes := @Nat.div_eq_of_lt
abbrev Zet := @Int.gcd_dvd_left
abbrev Zeu := @List.ext_getElem
abbrev Zev := @List.pairwise_append
abbrev Zew := @List.reverse_reverse
abbrev Zex := @Nat.div_lt_of_lt_mul
abbrev Zey := @List.map_cons
abbrev Zez := @Int.tmod_eq_emod_of_nonneg
abbrev Zfa := @List.flatMap_append
abbrev Zfb := @List.map_congr_left
abbrev Zfc := @List.length_nil
abbrev Zfd := @Bool.eq_iff_iff
abbrev Zfe := @Rat.intCast_add
abbrev Zff := @List.pairwise_iff_getElem
abbrev Zfg := @Nat.pos_of_ne_zero
abbrev Zfh := @Nat.gcd_comm
abbrev Zfi := @Rat.sub_eq_add_neg
abbrev Zfj := @List.set_cons_zero
abbrev Zfk := @List.set_cons_succ
abbrev Zfl := @List.filter_append
abbrev Zfm := @List.map_set
abbrev Zfn := @List.length_mapIdx
abbrev Zfo := @Option.bind_eq_some_iff
abbrev Zfp := @Bool.eq_false_iff
abbrev Zfq := @Int.toNat_natCast
abbrev Zfr := @List.filter_congr
abbrev Zfs := @Int.gcd_dvd_right
abbrev Zft := @Rat.neg_num
abbrev Zfu := @List.zipWith_cons_cons
abbrev Zfv := @Nat.div_div_eq_div_mul
abbrev Zfw := @List.map_take
abbrev Zfx := @Nat.le_of_not_lt
abbrev Zfy := @List.any_eq_true
abbrev Zfz := @Array.all_eq_true_iff_forall_mem
abbrev Zga := @Nat.min_eq_right
abbrev Zgb := @Nat.div_lt_iff_lt_mul
abbrev Zgc := @List.all_append
abbrev Zgd := @Int.natCast_mul
abbrev Zge := @List.nodup_cons
abbrev Zgf := @Rat.num_intCast
abbrev Zgg := @List.filter_nil
abbrev Zgh := @List.replicate_succ'
abbrev Zgi := @List.drop_left'
abbrev Zgj := @Int.natCast_pos
abbrev Zgk := @List.zipWith_append
abbrev Zgl := @List.replicate_succ
abbrev Zgm := @Int.natAbs_mul_self
abbrev Zgn := @Int.mul_nonneg
abbrev Zgo := @Int.le_refl
abbrev Zgp := @Nat.pow_pos
abbrev Zgq := @Int.tmod_lt_of_pos
abbrev Zgr := @Nat.gcd_zero_right
abbrev Zgs := @Nat.eq_zero_or_pos
abbrev Zgt := @List.all_cons
abbrev Zgu := @Bool.or_false
abbrev Zgv := @Bool.and_true
abbrev Zgw := @Rat.divInt_eq_div
abbrev Zgx := @Nat.le_succ_of_le
abbrev Zgy := @Nat.lt_trichotomy
abbrev Zgz := @List.reverse_cons
open Go
inductive Pa where
 | z | l (p:Pa) | r (p:Pa)
def Pa.succ (p:Pa):Pa:=Pa.rec (.l .z) (λp _=>.r p) (λ_ ih=>.l ih) p
def Pa.toNat:Pa->Nat
 | .z=>0
 | .l p=>2*p.toNat+1
 | .r p=>2*p.toNat+2
def Pa.oU (d:Nat):Nat->Pa :=
 Nat.rec (motive:=λ_=>Nat->Pa) (λ_=>.z) (λ_ ih n=>bif Nat.beq n 0 then .z else bif Nat.beq (Nat.mod n 2) 1 then .l (ih (Nat.div n 2)) else .r (ih (Nat.sub (Nat.div n 2) 1))) d
def Pa.of (n:Nat):Pa:=Pa.oU (n+1) n
inductive T (α:Type) where
 | e | n (l:T α) (v:α) (r:T α)
def T.getZ {α:Type} (d:α) (t:T α):α:=T.rec d (λ_ v _ _ _=>v) t
def T.getL {α:Type} (d:α) (_:Pa) (ih:T α->α) (t:T α):α:=T.rec d (λl _ _ _ _=>ih l) t
def T.getR {α:Type} (d:α) (_:Pa) (ih:T α->α) (t:T α):α:=T.rec d (λ_ _ r _ _=>ih r) t
def T.get {α:Type} (d:α) (p:Pa):T α->α:=Pa.rec (T.getZ d) (T.getL d) (T.getR d) p
def T.setZ {α β:Type} (_ x:α) (t:T α) (k:T α->β):β:=T.rec (k (.n .e x .e)) (λl _ r _ _=>k (.n l x r)) t
def T.setL {α β:Type} (d:α) (_:Pa) (ih:α->T α->(T α->β)->β) (x:α) (t:T α) (k:T α->β):β :=
 T.rec (ih x .e λl'=>k (.n l' d .e)) (λl v r _ _=>ih x l λl'=>k (.n l' v r)) t
def T.setR {α β:Type} (d:α) (_:Pa) (ih:α->T α->(T α->β)->β) (x:α) (t:T α) (k:T α->β):β :=
 T.rec (ih x .e λr'=>k (.n .e d r')) (λl v r _ _=>ih x r λr'=>k (.n l v r')) t
def T.cK {α β:Type} (d x:α) (p:Pa):T α->(T α->β)->β :=
 Pa.rec (motive:=λ_=>α->T α->(T α->β)->β) (T.setZ d) (T.setL d) (T.setR d) p x
inductive AV where
 | bool (b:Bool)
 | int (k:IntKind) (n:Int)
 | str (s:List UInt8)
 | rY
 | ptr (id:Pa) (off:Nat)
 | za
 | sl (id:Pa) (off len:Nat) (cap:Option Nat) (esz:Nat)
 | esl
 | rZ
 | map (id:Pa)
 | rR
 | fn (f:Nat) (p:Pa) (cap:List AV)
 | bm (f:Nat) (p:Pa) (first:List AV)
 | yld (id:Pa)
 | agg (l:List AV)
 | tup (l:List AV)
 | lst (esz ln:Nat) (l:List AV)
 | fp (l:List AV)
def AV.u:AV:=.tup []
def AV.cells (v:AV):Option (List AV):=AV.rec (motive_1:=λ_=>Option (List AV)) (motive_2:=λ_=>Unit)
  (λb=>some [.bool b]) (λk n=>some [.int k n]) (λs=>some [.str s]) (some [.rY]) (λid off=>some [.ptr id off]) (some [.za])
  (λid off ln cap esz=>some [.sl id off ln cap esz]) (some [.esl]) (some [.rZ]) (λid=>some [.map id]) (some [.rR]) (λf p cap _=>some [.fn f p cap]) (λf p cap _=>some [.bm f p cap]) (λid=>some [.yld id])
  (λl _=>some l) (λ_ _=>none) (λe n l _=>some [.lst e n l]) (λl _=>some [.fp l]) () (λ_ _ _ _=>()) v
def uo:AV->Bool
 | .agg _ | .tup _=>false
 | _=>true
inductive Out (β:Type) where
 | ok (x:β) | no (n:Nat)
def asBool {β:Type} (v:AV):(Bool->Out β)->Out β->Out β :=
 AV.rec (motive_1:=λ_=>(Bool->Out β)->Out β->Out β) (motive_2:=λ_=>Unit)
  (λa0 k0 _=>k0 a0)
  (λ_ _ _ no=>no)
  (λ_ _ no=>no)
  (λ_ no=>no)
  (λ_ _ _ no=>no)
  (λ_ no=>no)
  (λ_ _ _ _ _ _ no=>no)
  (λ_ no=>no)
  (λ_ no=>no)
  (λ_ _ no=>no)
  (λ_ no=>no)
  (λ_ _ _ _ _ no=>no)
  (λ_ _ _ _ _ no=>no)
  (λ_ _ no=>no)
  (λ_ _ _ no=>no)
  (λ_ _ _ no=>no)
  (λ_ _ _ _ _ no=>no)
  (λ_ _ _ no=>no)
  () (λ_ _ _ _=>()) v
def asInt {β:Type} (v:AV):(IntKind->Int->Out β)->Out β->Out β :=
 AV.rec (motive_1:=λ_=>(IntKind->Int->Out β)->Out β->Out β) (motive_2:=λ_=>Unit)
  (λ_ _ no=>no)
  (λa0 a1 k0 _=>k0 a0 a1)
  (λ_ _ no=>no)
  (λ_ no=>no)
  (λ_ _ _ no=>no)
  (λ_ no=>no)
  (λ_ _ _ _ _ _ no=>no)
  (λ_ no=>no)
  (λ_ no=>no)
  (λ_ _ no=>no)
  (λ_ no=>no)
  (λ_ _ _ _ _ no=>no)
  (λ_ _ _ _ _ no=>no)
  (λ_ _ no=>no)
  (λ_ _ _ no=>no)
  (λ_ _ _ no=>no)
  (λ_ _ _ _ _ no=>no)
  (λ_ _ _ no=>no)
  () (λ_ _ _ _=>()) v
def rX {β:Type} (v:AV):(List UInt8->Out β)->Out β->Out β :=
 AV.rec (motive_1:=λ_=>(List UInt8->Out β)->Out β->Out β) (motive_2:=λ_=>Unit)
  (λ_ _ no=>no)
  (λ_ _ _ no=>no)
  (λa0 k0 _=>k0 a0)
  (λ_ no=>no)
  (λ_ _ _ no=>no)
  (λ_ no=>no)
  (λ_ _ _ _ _ _ no=>no)
  (λ_ no=>no)
  (λ_ no=>no)
  (λ_ _ no=>no)
  (λ_ no=>no)
  (λ_ _ _ _ _ no=>no)
  (λ_ _ _ _ _ no=>no)
  (λ_ _ no=>no)
  (λ_ _ _ no=>no)
  (λ_ _ _ no=>no)
  (λ_ _ _ _ _ no=>no)
  (λ_ _ _ no=>no)
  () (λ_ _ _ _=>()) v
def rC {β:Type} (v:AV):(Pa->Nat->Out β)->(List AV->Out β)->Out β->Out β :=
 AV.rec (motive_1:=λ_=>(Pa->Nat->Out β)->(List AV->Out β)->Out β->Out β) (motive_2:=λ_=>Unit)
  (λ_ _ _ no=>no)
  (λ_ _ _ _ no=>no)
  (λ_ _ _ no=>no)
  (λ_ _ no=>no)
  (λa0 a1 k0 _ _=>k0 a0 a1)
  (λ_ _ no=>no)
  (λ_ _ _ _ _ _ _ no=>no)
  (λ_ _ no=>no)
  (λ_ _ no=>no)
  (λ_ _ _ no=>no)
  (λ_ _ no=>no)
  (λ_ _ _ _ _ _ no=>no)
  (λ_ _ _ _ _ _ no=>no)
  (λ_ _ _ no=>no)
  (λ_ _ _ _ no=>no)
  (λ_ _ _ _ no=>no)
  (λ_ _ _ _ _ _ no=>no)
  (λa0 _ _ k1 _=>k1 a0)
  () (λ_ _ _ _=>()) v
def asAgg {β:Type} (v:AV):(List AV->Out β)->Out β->Out β :=
 AV.rec (motive_1:=λ_=>(List AV->Out β)->Out β->Out β) (motive_2:=λ_=>Unit)
  (λ_ _ no=>no)
  (λ_ _ _ no=>no)
  (λ_ _ no=>no)
  (λ_ no=>no)
  (λ_ _ _ no=>no)
  (λ_ no=>no)
  (λ_ _ _ _ _ _ no=>no)
  (λ_ no=>no)
  (λ_ no=>no)
  (λ_ _ no=>no)
  (λ_ no=>no)
  (λ_ _ _ _ _ no=>no)
  (λ_ _ _ _ _ no=>no)
  (λ_ _ no=>no)
  (λa0 _ k0 _=>k0 a0)
  (λ_ _ _ no=>no)
  (λ_ _ _ _ _ no=>no)
  (λ_ _ _ no=>no)
  () (λ_ _ _ _=>()) v
def zfp {β:Type} (v:AV):(List AV->Out β)->Out β->Out β :=
 AV.rec (motive_1:=λ_=>(List AV->Out β)->Out β->Out β) (motive_2:=λ_=>Unit)
  (λ_ _ no=>no)
  (λ_ _ _ no=>no)
  (λ_ _ no=>no)
  (λ_ no=>no)
  (λ_ _ _ no=>no)
  (λ_ no=>no)
  (λ_ _ _ _ _ _ no=>no)
  (λ_ no=>no)
  (λ_ no=>no)
  (λ_ _ no=>no)
  (λ_ no=>no)
  (λ_ _ _ _ _ no=>no)
  (λ_ _ _ _ _ no=>no)
  (λ_ _ no=>no)
  (λ_ _ _ no=>no)
  (λa0 _ k0 _=>k0 a0)
  (λ_ _ _ _ _ no=>no)
  (λ_ _ _ no=>no)
  () (λ_ _ _ _=>()) v
def tX {β:Type} (v:AV):(Pa->Out β)->Out β->Out β->Out β :=
 AV.rec (motive_1:=λ_=>(Pa->Out β)->Out β->Out β->Out β) (motive_2:=λ_=>Unit)
  (λ_ _ _ no=>no)
  (λ_ _ _ _ no=>no)
  (λ_ _ _ no=>no)
  (λ_ _ no=>no)
  (λ_ _ _ _ no=>no)
  (λ_ _ no=>no)
  (λ_ _ _ _ _ _ _ no=>no)
  (λ_ _ no=>no)
  (λ_ k1 _=>k1)
  (λa0 k0 _ _=>k0 a0)
  (λ_ _ no=>no)
  (λ_ _ _ _ _ _ no=>no)
  (λ_ _ _ _ _ _ no=>no)
  (λ_ _ _ no=>no)
  (λ_ _ _ _ no=>no)
  (λ_ _ _ _ no=>no)
  (λ_ _ _ _ _ _ no=>no)
  (λ_ _ _ _ no=>no)
  () (λ_ _ _ _=>()) v
def asFn {β:Type} (v:AV):(Nat->Pa->List AV->Out β)->(Pa->Out β)->Out β->Out β :=
 AV.rec (motive_1:=λ_=>(Nat->Pa->List AV->Out β)->(Pa->Out β)->Out β->Out β) (motive_2:=λ_=>Unit)
  (λ_ _ _ no=>no)
  (λ_ _ _ _ no=>no)
  (λ_ _ _ no=>no)
  (λ_ _ no=>no)
  (λ_ _ _ _ no=>no)
  (λ_ _ no=>no)
  (λ_ _ _ _ _ _ _ no=>no)
  (λ_ _ no=>no)
  (λ_ _ no=>no)
  (λ_ _ _ no=>no)
  (λ_ _ no=>no)
  (λa0 a1 a2 _ k0 _ _=>k0 a0 a1 a2)
  (λ_ _ _ _ _ _ no=>no)
  (λa0 _ k1 _=>k1 a0)
  (λ_ _ _ _ no=>no)
  (λ_ _ _ _ no=>no)
  (λ_ _ _ _ _ _ no=>no)
  (λ_ _ _ _ no=>no)
  () (λ_ _ _ _=>()) v
def asBm {β:Type} (v:AV):(Nat->Pa->List AV->Out β)->Out β->Out β :=
 AV.rec (motive_1:=λ_=>(Nat->Pa->List AV->Out β)->Out β->Out β) (motive_2:=λ_=>Unit)
  (λ_ _ no=>no)
  (λ_ _ _ no=>no)
  (λ_ _ no=>no)
  (λ_ no=>no)
  (λ_ _ _ no=>no)
  (λ_ no=>no)
  (λ_ _ _ _ _ _ no=>no)
  (λ_ no=>no)
  (λ_ no=>no)
  (λ_ _ no=>no)
  (λ_ no=>no)
  (λ_ _ _ _ _ no=>no)
  (λa0 a1 a2 _ k0 _=>k0 a0 a1 a2)
  (λ_ _ no=>no)
  (λ_ _ _ no=>no)
  (λ_ _ _ no=>no)
  (λ_ _ _ _ _ no=>no)
  (λ_ _ _ no=>no)
  () (λ_ _ _ _=>()) v
def sU {β:Type} (v:AV):(Pa->Nat->Nat->Option Nat->Nat->Out β)->Out β->Out β->(List UInt8->Out β)->(Nat->Nat->List AV->Out β)->Out β->Out β :=
 AV.rec (motive_1:=λ_=>(Pa->Nat->Nat->Option Nat->Nat->Out β)->Out β->Out β->(List UInt8->Out β)->(Nat->Nat->List AV->Out β)->Out β->Out β) (motive_2:=λ_=>Unit)
  (λ_ _ _ _ _ _ no=>no)
  (λ_ _ _ _ _ _ _ no=>no)
  (λa0 _ _ _ k3 _ _=>k3 a0)
  (λ_ _ _ _ _ no=>no)
  (λ_ _ _ _ _ _ _ no=>no)
  (λ_ k1 _ _ _ _=>k1)
  (λa0 a1 a2 a3 a4 k0 _ _ _ _ _=>k0 a0 a1 a2 a3 a4)
  (λ_ _ k2 _ _ _=>k2)
  (λ_ _ _ _ _ no=>no)
  (λ_ _ _ _ _ _ no=>no)
  (λ_ _ _ _ _ no=>no)
  (λ_ _ _ _ _ _ _ _ _ no=>no)
  (λ_ _ _ _ _ _ _ _ _ no=>no)
  (λ_ _ _ _ _ _ no=>no)
  (λ_ _ _ _ _ _ _ no=>no)
  (λ_ _ _ _ _ _ _ no=>no)
  (λa0 a1 a2 _ _ _ _ _ k4 _=>k4 a0 a1 a2)
  (λ_ _ _ _ _ _ _ no=>no)
  () (λ_ _ _ _=>()) v
inductive Arg where
 | t (p:Pa) | s (k:Nat) | c (v:AV)
inductive Dst where
 | none | push | loc (p:Pa)
inductive NK where
 | sl | mp | fn | pt
inductive Cls where
 | int | str | bool | nil (k:NK) | agg (n:Nat)
inductive KK where
 | int | str | bool | agg (n:Nat)
inductive PO where
 | mv (x:Arg)
 | pick (c a b:Arg)
 | build (zero:List AV) (parts:List (Nat×Nat×Arg))
 | part (off:Nat) (sz:Option Nat) (x:Arg)
 | ext (i:Nat) (x:Arg)
 | bin (op:BinOp) (c:Cls) (x y:Arg)
 | neg (x:Arg)
 | not (x:Arg)
 | com (x:Arg)
 | conv (k:IntKind) (x:Arg)
 | strs (x:Arg)
 | load (x:Arg)
 | zm (sz:Nat) (x:Arg)
 | nilc (x:Arg)
 | oW (off:Nat) (x:Arg)
 | tJ (esz:Nat) (x i:Arg)
 | zfq (esz:Nat) (ln:Nat) (x i:Arg)
 | idx (esz:Nat) (agg:Bool) (ln:Nat) (x i:Arg)
 | sidx (x i:Arg)
 | slice (esz:Nat) (x:Arg) (lo hi mx:Option Arg)
 | oZ (x:Arg) (lo hi:Option Arg)
 | len (x:Arg)
 | slen (x:Arg)
 | mlen (x:Arg)
 | capz (x:Arg)
 | aslice (esz ln:Nat) (x:Arg) (lo hi mx:Option Arg)
 | look (kk:KK) (zero:AV) (ok:Bool) (m k:Arg)
 | fn (f:Nat) (p:Pa) (cap:List Arg)
 | bm (f:Nat) (p:Pa) (first:List Arg)
 | b2s (x:Arg)
 | zaa (mx:Bool) (x:Arg) (xs:List Arg)
 | entry (x:Arg)
def layG (g:Nat):List Nat:=bif Nat.beq g 2 then [1,10,100,1000,10000,100000,1000000,10000000,100000000,1000000000,10000000000,100000000000,1000000000000,10000000000000,100000000000000,1000000000000000,10000000000000000,100000000000000000,1000000000000000000,10000000000000000000] else []
def oo (g:Nat):List AV:=(layG g).map λn=>.int .u64 (.ofNat n)
inductive WO where
 | box (x:Arg)
 | alloc (zero:List AV)
 | dz (esz ln:Nat) (zero:List AV) (parts:List (Nat×Nat×Arg))
 | sV (esz bytes:Nat) (zero:List AV) (ln cap:Arg)
 | zab
 | store (sz:Nat) (a x:Arg)
 | znf (kk:KK) (m k x:Arg)
 | mapent (kk:KK) (zero:AV) (m k:Arg)
 | entst (m s x:Arg)
 | app (esz bytes:Nat) (s x:Arg)
 | copy (esz:Nat) (d s:Arg)
 | call (f:Arg) (args:List Arg)
 | range (x:Arg)
 | next (x:Arg)
 | clr (esz:Nat) (zero:List AV) (s:Arg)
 | appq (esz bytes:Nat) (s x:Arg)
 | appm (esz bytes:Nat) (zero:List AV) (s x:Arg)
inductive RO where
 | s (op:PO)
 | q (dst:Pa) (op:PO)
 | p (dst:Dst) (guard:Option (Arg×Bool)) (op:PO)
 | w (dst:Dst) (guard:Option (Arg×Bool)) (op:WO)
inductive IR where
 | skip
 | reg (l:List RO)
 | rq (c0:List WO) (l:List (RO×Nat×List WO))
 | seq (a b:IR)
 | cond (c:Arg) (a b:IR)
 | block (id:Nat) (b:IR)
 | loop (b:IR)
 | rf (f:Arg) (ps:List Pa) (a b:IR)
 | exit (id:Nat)
 | ret
 | bad (n:Nat)
inductive Jump where
 | none | ret | exit (id:Nat)
inductive LSt where
 | ready | busy | done
inductive Blk where
 | no
 | cells (op:Bool) (n:Nat) (t:T AV)
 | map (n:Nat) (l:List (AV×AV))
 | loop (st:LSt) (j:Jump) (tm:T AV) (ps:List Pa) (a b:IR)
 | iter (m:Pa) (n:Nat) (seen:List Nat) (c:Nat)
def uy {β:Type} (b:Blk) (k:Bool->Nat->T AV->Out β) (no:Out β):Out β :=
 Blk.rec (motive:=λ_=>(Bool->Nat->T AV->Out β)->Out β->Out β) (λ_ no=>no) (λop n t k _=>k op n t) (λ_ _ _ no=>no) (λ_ _ _ _ _ _ _ no=>no) (λ_ _ _ _ _ no=>no) b k no
def nQ {β:Type} (b:Blk) (k:Nat->List (AV×AV)->Out β) (no:Out β):Out β :=
 Blk.rec (motive:=λ_=>(Nat->List (AV×AV)->Out β)->Out β->Out β) (λ_ no=>no) (λ_ _ _ _ no=>no) (λn l k _=>k n l) (λ_ _ _ _ _ _ _ no=>no) (λ_ _ _ _ _ no=>no) b k no
def pM {β:Type} (b:Blk) (k:LSt->Jump->T AV->List Pa->IR->IR->Out β) (no:Out β):Out β :=
 Blk.rec (motive:=λ_=>(LSt->Jump->T AV->List Pa->IR->IR->Out β)->Out β->Out β) (λ_ no=>no) (λ_ _ _ _ no=>no) (λ_ _ _ no=>no) (λst j tm ps a b k _=>k st j tm ps a b) (λ_ _ _ _ _ no=>no) b k no
def aH {β:Type} (b:Blk) (k:Pa->Nat->List Nat->Nat->Out β) (no:Out β):Out β :=
 Blk.rec (motive:=λ_=>(Pa->Nat->List Nat->Nat->Out β)->Out β->Out β) (λ_ no=>no) (λ_ _ _ _ no=>no) (λ_ _ _ no=>no) (λ_ _ _ _ _ _ _ no=>no) (λm n s c k _=>k m n s c) b k no
inductive RV where
 | t (p:Pa) | cell (p:Pa) (sz:Option Nat)
structure Fn where
 params:List Pa
 res:List RV
 body:IR
 init:T AV
def qz {β:Type} (n:Nat) (k:Nat->β):β:=Nat.rec (k 0) (λm _=>k (Nat.succ m)) n
def qi {β:Type} (z:Int) (k:Int->β):β:=Int.rec (λn=>qz n λn=>k (.ofNat n)) (λn=>qz n λn=>k (.negSucc n)) z
def iadd (a b:Int):Int:=Int.rec (λm=>Int.rec (λn=>.ofNat (Nat.add m n)) (λ_=>a+b) b) (λ_=>a+b) a
def zjo (z:Int):Int:=Int.rec (λn=>bif Nat.ble n 9223372036854775807 then .ofNat n else IntKind.wrap .i64 (.ofNat n))
 (λn=>bif Nat.ble n 9223372036854775807 then .negSucc n else IntKind.wrap .i64 (.negSucc n)) z
def uS (k:IntKind):Int->Int:=IntKind.rec (motive:=λ_=>Int->Int) (IntKind.wrap .i8) (IntKind.wrap .i16) (IntKind.wrap .i32) zjo (IntKind.wrap .u8) (IntKind.wrap .u16) (IntKind.wrap .u32) (IntKind.wrap .u64) k
def ilt (a b:Int):Bool :=
 Int.rec (λm=>Int.rec (λn=>Nat.ble (Nat.succ m) n) (λ_=>false) b) (λm=>Int.rec (λ_=>true) (λn=>Nat.ble (Nat.succ n) m) b) a
def ieq (a b:Int):Bool :=
 Int.rec (λm=>Int.rec (λn=>Nat.beq m n) (λ_=>false) b) (λm=>Int.rec (λ_=>false) (λn=>Nat.beq m n) b) a
def ztl:IntKind->Nat
 | .i8=>0 | .i16=>1 | .i32=>2 | .i64=>3 | .u8=>4 | .u16=>5 | .u32=>6 | .u64=>7
def xG (a b:IntKind):Bool:=Nat.beq (ztl a) (ztl b)
def gN:List UInt8->List UInt8->Bool
 | [],[]=>true
 | a::x,b::y=>bif Nat.beq a.toNat b.toNat then gN x y else false
 | _,_=>false
structure Tm where
 v:T AV
 s:List AV
def nthN (l:List AV):AV:=List.rec .u (λv _ _=>v) l
def nthS (_:Nat) (ih:List AV->AV) (l:List AV):AV:=List.rec .u (λ_ l _=>ih l) l
def nth (k:Nat):List AV->AV:=Nat.rec nthN nthS k
def evT (p:Pa) (tm:Tm):AV:=Tm.rec (λv _=>T.get .u p v) tm
def evS (k:Nat) (tm:Tm):AV:=Tm.rec (λ_ s=>nth k s) tm
def evC (v:AV) (_:Tm):AV:=v
def Arg.ev (a:Arg):Tm->AV:=Arg.rec evT evS evC a
section
variable {β:Type}
abbrev BI (β:Type):=IntKind->Int->Int->Out β->(AV->Out β)->Out β
def zye:BI β:=λk a b _ K=>qi (uS k (iadd a b)) λz=>K (.int k z)
def zyf:BI β:=λk a b _ K=>qi (uS k (a-b)) λz=>K (.int k z)
def zyg:BI β:=λk a b _ K=>qi (uS k (a*b)) λz=>K (.int k z)
def zyh:BI β:=λk a b no K=>bif ieq b 0 then no else qi (k.wrap (a.tdiv b)) λz=>K (.int k z)
def zyi:BI β:=λk a b no K=>bif ieq b 0 then no else qi (a.tmod b) λz=>K (.int k z)
def zyj:BI β:=λk a b _ K=>qi (k.wrap (BitVec.ofInt k.bits a &&& BitVec.ofInt k.bits b).toNat) λz=>K (.int k z)
def biOr:BI β:=λk a b _ K=>qi (k.wrap (BitVec.ofInt k.bits a ||| BitVec.ofInt k.bits b).toNat) λz=>K (.int k z)
def zyk:BI β:=λk a b _ K=>qi (k.wrap (BitVec.ofInt k.bits a ^^^ BitVec.ofInt k.bits b).toNat) λz=>K (.int k z)
def zng:BI β:=λk a b _ K=>qi (k.wrap (BitVec.ofInt k.bits a &&& ~~~BitVec.ofInt k.bits b).toNat) λz=>K (.int k z)
def zyl:BI β:=λk a b no K=>bif ilt b 0 then no else qi (k.wrap (a*2 ^ (min b.toNat k.bits))) λz=>K (.int k z)
def zym:BI β:=λk a b no K=>bif ilt b 0 then no else qi (a.fdiv (2 ^ (min b.toNat k.bits))) λz=>K (.int k z)
def zyn:BI β:=λ_ a b _ K=>K (.bool (ieq a b))
def zyo:BI β:=λ_ a b _ K=>K (.bool (!ieq a b))
def zyp:BI β:=λ_ a b _ K=>K (.bool (ilt a b))
def zyq:BI β:=λ_ a b _ K=>K (.bool (!ilt b a))
def zyr:BI β:=λ_ a b _ K=>K (.bool (ilt b a))
def zys:BI β:=λ_ a b _ K=>K (.bool (!ilt a b))
def zh2 (op:BinOp):BI β:=BinOp.rec (motive:=λ_=>BI β) zye zyf zyg zyh zyi zyj biOr zyk zyl zym zng zyn zyo zyp zyq zyr zys op
def zjq (op:BinOp):Bool:=BinOp.rec (motive:=λ_=>Bool) false false false false false false false false true true false false false false false false false op
def isEq (op:BinOp):Option Bool:=BinOp.rec (motive:=λ_=>Option Bool) none none none none none none none none none none none (some true) (some false) none none none none op
def gT:NK->AV->Option Bool
 | .sl,.za=>some true
 | .sl,.sl .. => some false
 | .sl,.esl=>some false
 | .sl,.lst _ n _=>bif Nat.ble 1 n then some false else none
 | .mp,.rZ=>some true
 | .mp,.map _=>some false
 | .fn,.rR=>some true
 | .fn,.fn .. => some false
 | .pt,.rY=>some true
 | .pt,.ptr .. => some false
 | .pt,.fp _=>some false
 | _,_=>none
def u7:List AV->List AV->Option Bool
 | [],[]=>some true
 | .int k a::l,.int k' b::l'=>bif xG k k' then (bif ieq a b then u7 l l' else some false) else none
 | _,_=>none
abbrev BA (β:Type):=BinOp->AV->AV->(AV->Out β)->Out β
def pC (op:BinOp) (r:Bool) (K:AV->Out β):Out β:=match isEq op with
 | some true=>K (.bool r)
 | some false=>K (.bool (!r))
 | none=>.no 5
def zyt:BA β:=λop x y K=>asInt x (λk a=>asInt y (λk' b=>bif zjq op||xG k k' then zh2 op k a b (.no 5) K else .no 5) (.no 5)) (.no 5)
def zyu:BA β:=λop x y K=>rX x (λa=>rX y (λb=>match op with
  | .add=>bif Nat.ble (a.length+b.length) 1000000 then K (.str (a++b)) else .no 5
  | op=>pC op (gN a b) K) (.no 5)) (.no 5)
def zva:BA β:=λop x y K=>asBool x (λa=>asBool y (λb=>pC op (a==b) K) (.no 5)) (.no 5)
def znh (k:NK):BA β:=λop x y K=>match gT k x,gT k y with
  | some b,some true=>pC op b K
  | _,_=>.no 5
def zni (n:Nat):BA β:=λop x y K=>asAgg x (λa=>asAgg y (λb=>bif Nat.beq a.length n&&Nat.beq b.length n then (match u7 a b with
  | some r=>pC op r K
  | none=>.no 5) else .no 5) (.no 5)) (.no 5)
def znj (c:Cls):BA β:=Cls.rec (motive:=λ_=>BA β) zyt zyu zva znh zni c
end
def yQ (t:T AV):Nat->Nat->List AV :=
 λoff n=>Nat.rec (motive:=λ_=>Nat->List AV) (λ_=>[]) (λ_ ih off=>T.get .u (.of off) t::ih (off+1)) n off
def uB {β:Type} (l:List AV):T AV->Nat->(T AV->β)->β :=
 List.rec (motive:=λ_=>T AV->Nat->(T AV->β)->β) (λt _ k=>k t) (λv _ ih t off k=>T.cK .u v (.of off) t λt'=>ih t' (off+1) k) l
def zdr {β:Type} (l:List AV) (k:Nat->T AV->β):β:=uB l .e 0 λt=>k l.length t
def gH (l:List AV) (off:Nat) (c:List AV):List AV:=l.take off++c++l.drop (off+c.length)
def gE (l:List AV):List (Nat×Nat×AV)->Option (List AV)
 | []=>some l
 |(off,sz,v)::rest=>match v.cells with
  | some c=>bif Nat.beq c.length sz&&Nat.ble (off+sz) l.length then gE (gH l off c) rest else none
  | none=>none
def j7 (ps:List (Nat×Nat×Arg)) (tm:Tm):List (Nat×Nat×AV):=ps.map λ(o,s,a)=>(o,s,a.ev tm)
def fB (n:Nat) (z:List AV):List AV:=Nat.rec [] (λ_ ih=>z++ih) n
def gQ (v:AV) (y:Nat):Option Nat:=match v with
 | .int _ (.ofNat n)=>bif Nat.ble n y then some n else none
 | _=>none
def uT:KK->AV->AV->Option Bool
 | .str,.str a,.str b=>some (gN a b)
 | .int,.int k a,.int k' b=>bif xG k k' then some (ieq a b) else none
 | .bool,.bool a,.bool b=>some (a==b)
 | .agg _,.agg a,.agg b=>u7 a b
 | _,_,_=>none
def vT:KK->AV->Bool
 | .agg n,.agg l=>Nat.beq l.length n
 | .agg _,_=>false
 | _,_=>true
def bR (kk:KK) (k:AV):List (AV×AV)->Nat->Option (Option (Nat×AV))
 | [],_=>some none
 |(k',v)::l,i=>match uT kk k k' with
  | some true=>some (some (i,v))
  | some false=>bR kk k l (i+1)
  | none=>none
def wU (kk:KK) (k:AV) (l:List (AV×AV)):Option (Option (Nat×AV)):=bif vT kk k then bR kk k l 0 else none
def ak:List AV->Option (List UInt8)
 | []=>some []
 | .int .u8 n::l=>match ak l with
  | some s=>some (UInt8.ofNat n.toNat::s)
  | none=>none
 | _=>none
def minA (mx:Bool):AV->List AV->Option AV
 | x,[]=>some x
 | .int k a,.int k' b::l=>bif xG k k' then minA mx (.int k (bif (bif mx then ilt a b else ilt b a) then b else a)) l else none
 | _,_=>none
section
variable {β:Type}
def bnd (o:Option AV) (y d:Nat):Option Nat:=match o with
 | some v=>gQ v y
 | none=>some d
def pF (id:Pa) (off ln cap esz:Nat) (lo hi mx:Option AV) (K:AV->Out β):Out β :=
 bif mx.isSome&&hi.isNone then .no 17 else
 match bnd mx cap cap with
 | none=>.no 17
 | some m=>match bnd hi m ln with
  | none=>.no 17
  | some h=>match bnd lo h 0 with
   | none=>.no 17
   | some l=>bif Nat.beq m l then K (.sl id off (h-l) (some 0) esz)
    else qz (off+l*esz) λoff=>qz (h-l) λh=>qz (m-l) λm=>K (.sl id off h (some m) esz)
def zac (id:Pa) (off ln esz:Nat) (lo hi mx:Option AV) (K:AV->Out β):Out β :=
 match mx with
 | none=>match bnd hi ln ln with
  | none=>.no 17
  | some h=>match bnd lo h 0 with
   | none=>.no 17
   | some l=>bif Nat.beq l 0 then K (.sl id off h none esz) else bif Nat.ble (l+1) ln then qz (off+l*esz) λoff=>qz (h-l) λh=>K (.sl id off h none esz) else K .esl
 | some mv=>bif hi.isNone then .no 17 else match gQ mv ln with
  | none=>.no 17
  | some m=>match bnd hi m 0 with
   | none=>.no 17
   | some h=>match bnd lo h 0 with
    | none=>.no 17
    | some l=>bif Nat.beq m l then .no 17 else qz (off+l*esz) λoff=>qz (h-l) λh=>qz (m-l) λm=>K (.sl id off h (some m) esz)
def zh3 (esz n:Nat) (l:List AV) (lo hi mx:Option AV) (K:AV->Out β):Out β :=
 bif mx.isSome&&hi.isNone then .no 17 else match bnd mx n n with
 | none=>.no 17
 | some m=>match bnd hi m n with
  | none=>.no 17
  | some h=>match bnd lo h 0 with
   | none=>.no 17
   | some q=>K (.lst esz (h-q) ((l.drop (q*esz)).take ((h-q)*esz)))
def zds (lo hi mx:Option AV) (K:AV->Out β):Out β :=
 match mx,bnd hi 0 0,bnd lo 0 0 with
 | none,some _,some _=>K .za
 | _,_,_=>.no 17
def zad (esz:Nat) (x:AV) (lo hi mx:Option AV) (K:AV->Out β):Out β :=
 sU x (λid off ln cap e=>bif Nat.beq e esz then (match cap with | some c=>pF id off ln c esz lo hi mx K | none=>zac id off ln esz lo hi mx K) else .no 17)
  (zds lo hi mx K) (.no 17) (λ_=>.no 17) (λe n l=>bif Nat.beq e esz&&Nat.ble 1 n then zh3 esz n l lo hi mx K else .no 17) (.no 17)
abbrev EP (β:Type):=Tm->T Blk->(AV->Out β)->Out β
def epMv (x:Arg):EP β:=λtm _ K=>K (x.ev tm)
def yZ (c:AV) (a:AV) (b:AV) (K:AV->Out β):Out β:=asBool c (λt=>K (bif t then a else b)) (.no 1)
def zvb (c a b:Arg):EP β:=λtm _ K=>yZ (c.ev tm) (a.ev tm) (b.ev tm) K
def zdu (zero:List AV) (ps:List (Nat×Nat×Arg)):EP β:=λtm _ K=>match gE zero (j7 ps tm) with
  | some l=>K (.agg l)
  | none=>.no 2
def zjr (off:Nat) (sz:Option Nat) (x:AV) (K:AV->Out β):Out β:=asAgg x (λl=>match sz with
   | some n=>K (.agg ((l.drop off).take n))
   | none=>match l[off]? with
    | some v=>K v
    | none=>.no 3) (.no 3)
def zh4 (off:Nat) (sz:Option Nat) (x:Arg):EP β:=λtm _ K=>zjr off sz (x.ev tm) K
def fw (i:Nat) (x:AV) (K:AV->Out β):Out β:=zfp x (λl=>match l[i]? with
   | some v=>K v
   | none=>.no 4) (.no 4)
def znk (i:Nat) (x:Arg):EP β:=λtm _ K=>fw i (x.ev tm) K
def zyv (op:BinOp) (c:Cls) (x y:Arg):EP β:=λtm _ K=>znj c op (x.ev tm) (y.ev tm) K
def sNeg (x:AV) (K:AV->Out β):Out β:=asInt x (λk a=>qi (uS k (0-a)) λz=>K (.int k z)) (.no 6)
def zyw (x:Arg):EP β:=λtm _ K=>sNeg (x.ev tm) K
def sNot (x:AV) (K:AV->Out β):Out β:=asBool x (λb=>K (.bool !b)) (.no 6)
def zyx (x:Arg):EP β:=λtm _ K=>sNot (x.ev tm) K
def sCom (x:AV) (K:AV->Out β):Out β:=asInt x (λk a=>qi (k.wrap (BitVec.ofInt k.bits (if k.signed then -1 else k.max) ^^^ BitVec.ofInt k.bits a).toNat) λz=>K (.int k z)) (.no 6)
def zyy (x:Arg):EP β:=λtm _ K=>sCom (x.ev tm) K
def kI (k:IntKind) (x:AV) (K:AV->Out β):Out β:=asInt x (λ_ a=>qi (uS k a) λz=>K (.int k z)) (.no 7)
def zvc (k:IntKind) (x:Arg):EP β:=λtm _ K=>kI k (x.ev tm) K
def zyz (x:AV) (K:AV->Out β):Out β:=rX x (λs=>K (.str s)) (.no 7)
def zvd (x:Arg):EP β:=λtm _ K=>zyz (x.ev tm) K
def zH (x:AV) (h:T Blk) (K:AV->Out β):Out β:=rC x (λid off=>uy (T.get .no id h) (λ_ n t=>bif Nat.ble (Nat.succ off) n then K (T.get .u (.of off) t) else .no 8) (.no 9)) (λl=>match l with | v::_=>K v | []=>.no 8) (.no 10)
def zae (x:Arg):EP β:=λtm h K=>zH (x.ev tm) h K
def zJ (s:Nat) (x:AV) (h:T Blk) (K:AV->Out β):Out β:=rC x (λid off=>uy (T.get .no id h) (λ_ n t=>bif Nat.ble (off+s) n then K (.agg (yQ t off s)) else .no 8) (.no 9)) (λl=>bif Nat.ble s l.length then K (.agg (l.take s)) else .no 8) (.no 10)
def zdv (s:Nat) (x:Arg):EP β:=λtm h K=>zJ s (x.ev tm) h K
def zy0 (x:AV) (K:AV->Out β):Out β:=rC x (λid off=>K (.ptr id off)) (λl=>K (.fp l)) (asFn x (λf p c=>K (.fn f p c)) (λid=>K (.yld id)) (asBm x (λf p c=>K (.bm f p c)) (.no 11)))
def zh5 (x:Arg):EP β:=λtm _ K=>zy0 (x.ev tm) K
def zL (off:Nat) (x:AV) (K:AV->Out β):Out β:=rC x (λid o=>qz (o+off) λo=>K (.ptr id o)) (λl=>K (.fp (l.drop off))) (.no 12)
def zrc (off:Nat) (x:Arg):EP β:=λtm _ K=>zL off (x.ev tm) K
def zK (esz:Nat) (x:AV) (i:AV) (K:AV->Out β):Out β:=asInt i (λ_ j=>sU x (λid off n _ _ =>
  match j with
  | .ofNat j=>bif Nat.ble (Nat.succ j) n then qz (off+j*esz) λo=>K (.ptr id o) else .no 13
  | _=>.no 13) (.no 13) (.no 13) (λ_=>.no 13) (λe n l =>
  match j with
  | .ofNat j=>bif Nat.ble (Nat.succ j) n&&Nat.beq e esz then K (.fp (l.drop (j*esz))) else .no 13
  | _=>.no 13) (.no 13)) (.no 13)
def zdw (esz:Nat) (x i:Arg):EP β:=λtm _ K=>zK esz (x.ev tm) (i.ev tm) K
def oO (esz:Nat) (n:Nat) (x:AV) (i:AV) (K:AV->Out β):Out β:=asInt i (λ_ j=>rC x (λid off =>
  match j with
  | .ofNat j=>bif Nat.ble (Nat.succ j) n then qz (off+j*esz) λo=>K (.ptr id o) else .no 14
  | _=>.no 14) (λl =>
  match j with
  | .ofNat j=>bif Nat.ble (Nat.succ j) n then K (.fp (l.drop (j*esz))) else .no 14
  | _=>.no 14) (.no 14)) (.no 14)
def zdx (esz n:Nat) (x i:Arg):EP β:=λtm _ K=>oO esz n (x.ev tm) (i.ev tm) K
def sIdx (esz:Nat) (agg:Bool) (n:Nat) (x:AV) (i:AV) (K:AV->Out β):Out β:=asInt i (λ_ j=>asAgg x (λl =>
  match j with
  | .ofNat j=>bif Nat.ble (Nat.succ j) n then (match agg with
     | true=>K (.agg ((l.drop (j*esz)).take esz))
     | false=>match l[j*esz]? with
      | some v=>K v
      | none=>.no 15) else .no 15
  | _=>.no 15) (.no 15)) (.no 15)
def znl (esz:Nat) (agg:Bool) (n:Nat) (x i:Arg):EP β:=λtm _ K=>sIdx esz agg n (x.ev tm) (i.ev tm) K
def j0 (x:AV) (i:AV) (K:AV->Out β):Out β:=asInt i (λ_ j=>rX x (λs =>
  match j with
  | .ofNat j=>match s[j]? with
   | some b=>qz b.toNat λn=>K (.int .u8 (.ofNat n))
   | none=>.no 16
  | _=>.no 16) (.no 16)) (.no 16)
def zh6 (x i:Arg):EP β:=λtm _ K=>j0 (x.ev tm) (i.ev tm) K
def zrd (esz:Nat) (x:Arg) (lo hi mx:Option Arg):EP β:=λtm _ K=>zad esz (x.ev tm) (lo.map (Arg.ev · tm)) (hi.map (Arg.ev · tm)) (mx.map (Arg.ev · tm)) K
def zaf (x:Arg) (lo hi:Option Arg):EP β:=λtm _ K=>rX (x.ev tm) (λs =>
  match bnd (hi.map (Arg.ev · tm)) s.length s.length with
   | none=>.no 18
   | some h=>match bnd (lo.map (Arg.ev · tm)) h 0 with
    | none=>.no 18
    | some l=>K (.str ((s.drop l).take (h-l)))) (.no 18)
def sLen (x:AV) (K:AV->Out β):Out β:=sU x (λ_ _ n _ _=>K (.int .i64 (.ofNat n))) (K (.int .i64 (.ofNat 0))) (K (.int .i64 (.ofNat 0))) (λ_=>.no 19) (λ_ n _=>K (.int .i64 (.ofNat n))) (.no 19)
def zy1 (x:Arg):EP β:=λtm _ K=>sLen (x.ev tm) K
def kV (x:AV) (K:AV->Out β):Out β:=rX x (λs=>qz s.length λn=>K (.int .i64 (.ofNat n))) (.no 19)
def zve (x:Arg):EP β:=λtm _ K=>kV (x.ev tm) K
def zy2 (x:AV) (h:T Blk) (K:AV->Out β):Out β:=tX x (λid=>nQ (T.get .no id h) (λn _=>qz n λn=>K (.int .i64 (.ofNat n))) (.no 19)) (K (.int .i64 (.ofNat 0))) (.no 19)
def zvf (x:Arg):EP β:=λtm h K=>zy2 (x.ev tm) h K
def zy3 (x:AV) (K:AV->Out β):Out β:=sU x (λ_ _ _ _ _=>.no 20) (K (.int .i64 (.ofNat 0))) (.no 20) (λ_=>.no 20) (λ_ _ _=>.no 20) (.no 20)
def zvg (x:Arg):EP β:=λtm _ K=>zy3 (x.ev tm) K
def dJ (esz ln:Nat) (x:AV) (lo hi mx:Option AV) (K:AV->Out β):Out β:=rC x (λid off=>pF id off ln ln esz lo hi mx K) (λ_=>.no 17) (.no 17)
def znm (esz ln:Nat) (x:Arg) (lo hi mx:Option Arg):EP β:=λtm _ K=>dJ esz ln (x.ev tm) (lo.map (Arg.ev · tm)) (hi.map (Arg.ev · tm)) (mx.map (Arg.ev · tm)) K
def zy4 (kk:KK) (zero:AV) (ok:Bool) (m:AV) (k:AV) (h:T Blk) (K:AV->Out β):Out β:=tX m (λid=>nQ (T.get .no id h) (λ_ l=>match wU kk k l with
        | some (some (_,v))=>K (bif ok then .tup [v,.bool true] else v)
        | some none=>K (bif ok then .tup [zero,.bool false] else zero)
        | none=>.no 20) (.no 20)) (bif vT kk k then K (bif ok then .tup [zero,.bool false] else zero) else .no 20) (.no 20)
def zh7 (kk:KK) (zero:AV) (ok:Bool) (m k:Arg):EP β:=λtm h K=>zy4 kk zero ok (m.ev tm) (k.ev tm) h K
def epFn (f:Nat) (p:Pa) (cap:List Arg):EP β:=λtm _ K=>K (.fn f p (cap.map (Arg.ev · tm)))
def epBm (f:Nat) (p:Pa) (first:List Arg):EP β:=λtm _ K=>K (.bm f p (first.map (Arg.ev · tm)))
def sB2s (x:AV) (h:T Blk) (K:AV->Out β):Out β:=sU x (λid off n _ _=>uy (T.get .no id h) (λ_ m t=>bif Nat.ble (off+n) m then (match ak (yQ t off n) with
          | some s=>K (.str s)
          | none=>.no 21) else .no 21) (.no 21)) (K (.str [])) (.no 21) (λ_=>.no 21) (λ_ _ _=>.no 21) (.no 21)
def znn (x:Arg):EP β:=λtm h K=>sB2s (x.ev tm) h K
def zno (mx:Bool) (x:Arg) (xs:List Arg):EP β:=λtm _ K=>match minA mx (x.ev tm) (xs.map (Arg.ev · tm)) with
  | some v=>K v
  | none=>.no 22
def znp (x:AV) (h:T Blk) (K:AV->Out β):Out β:=rC x (λid off=>bif Nat.beq off 0 then aH (T.get .no id h) (λmid _ seen c=>nQ (T.get .no mid h) (λk l=>match seen with
   | i::_=>bif Nat.beq c k then (match l[i]? with
    | some (a,b)=>K (.tup [a,b])
    | none=>.no 54) else .no 54
   | []=>.no 54) (.no 54)) (.no 54) else .no 54) (λ_=>.no 54) (.no 54)
def zre (x:Arg):EP β:=λtm h K=>znp (x.ev tm) h K
def PO.ev (o:PO):EP β:=PO.rec (motive:=λ_=>EP β) epMv zvb zdu zh4 znk zyv zyw zyx zyy zvc zvd zae zdv zh5 zrc zdw zdx znl zh6 zrd zaf zy1 zve zvf zvg znm zh7 epFn epBm znn zno zre o
abbrev Kw (β:Type):=AV->T Blk->Pa->Out β
def newB (op:Bool) (l:List AV) (h:T Blk) (nx:Pa) (K:Pa->T Blk->Pa->Out β):Out β :=
 zdr l λn t=>qz n λn=>T.cK .no (.cells op n t) nx h λh'=>K nx h' nx.succ
def yT (op:Bool) (l:List AV) (h:T Blk) (nx:Pa) (K:Pa->T Blk->Pa->Out β):Out β :=
 T.rec (motive:=λ_=>Out β) (newB op l h nx K) (λ_ _ _ _ _=>newB op l h nx K) h
def wQ (x:AV) (h:T Blk) (no:Out β) (K:List AV->Nat->Out β):Out β :=
 sU x (λid off ln _ esz=>uy (T.get .no id h) (λ_ m t=>bif Nat.ble (off+ln*esz) m then K (yQ t off (ln*esz)) ln else no) no)
  (K [] 0) (K [] 0) (λs=>K (s.map λb=>.int .u8 b.toNat) s.length) (λ_ n l=>K l n) no
def q9 (id:Pa) (off ln:Nat) (cap:Option Nat) (esz:Nat) (op:Bool) (m:Nat) (t:T AV) (new:List AV) (n:Nat) (h:T Blk) (nx:Pa) (K:Kw β):Out β :=
 uB new t (off+ln*esz) λt'=>T.cK .no (.cells op m t') id h λh'=>qz (ln+n) λq=>K (.sl id off q cap esz) h' nx
def q8 (off ln:Nat) (esz:Nat) (t:T AV) (new:List AV) (n:Nat) (h:T Blk) (nx:Pa) (K:Kw β):Out β :=
 yT true (yQ t off (ln*esz)++new) h nx λid' h' nx'=>qz (ln+n) λq=>K (.sl id' 0 q none esz) h' nx'
def mW (id:Pa) (ln esz:Nat) (m:Nat) (t:T AV) (new:List AV) (n:Nat) (h:T Blk) (nx:Pa) (K:Kw β):Out β :=
 uB new t m λt'=>qz (m+n*esz) λm'=>T.cK .no .no id h λh'=>T.cK .no (.cells true m' t') nx h' λh''=>qz (ln+n) λq=>K (.sl nx 0 q none esz) h'' nx.succ
def appA (esz bytes:Nat) (s x:AV) (h:T Blk) (nx:Pa) (K:Kw β):Out β :=
 wQ x h (.no 30) λnew n=>bif Nat.ble (bytes*1000000) 70368744177664&&Nat.beq new.length (n*esz)&&Nat.ble 1 esz&&new.all uo then
  sU s (λid off ln cap e=>bif Nat.beq e esz&&Nat.ble (ln+n) 1000000 then
    uy (T.get .no id h) (λop m t=>bif Nat.ble (off+ln*esz) m then
     (match cap with
     | some c=>bif Nat.ble (ln+n) c then (bif Nat.ble (off+(ln+n)*esz) m then q9 id off ln (some c) esz op m t new n h nx K else .no 32) else q8 off ln esz t new n h nx K
     | none=>bif Nat.ble (off+(ln+n)*esz) m then q9 id off ln none esz op m t new n h nx K
      else bif op&&Nat.beq (off+ln*esz) m&&Nat.beq off 0 then mW id ln esz m t new n h nx K else .no 33) else .no 34) (.no 35) else .no 36)
   (bif Nat.beq n 0 then K .za h nx else bif Nat.ble n 1000000 then yT true new h nx λid h' nx'=>K (.sl id 0 n none esz) h' nx' else .no 31)
   (.no 37) (λ_=>.no 37) (λ_ _ _=>.no 37) (.no 37)
  else .no 38
def zrf (l:List AV) (t:T AV) (k:T AV->Out β):Out β:=List.rec (k t) (λ_ _ _=>.no 88) l
def znq (p:Pa) (_:List Pa) (ih:List AV->T AV->(T AV->Out β)->Out β) (l:List AV) (t:T AV) (k:T AV->Out β):Out β :=
 List.rec (.no 89) (λv vs _=>T.cK .u v p t λt'=>ih vs t' k) l
def kG (ps:List Pa):List AV->T AV->(T AV->Out β)->Out β :=
 List.rec (motive:=λ_=>List AV->T AV->(T AV->Out β)->Out β) zrf znq ps
structure Calls (β:Type) where
 fn:Nat->Pa->List AV->T Blk->Pa->Kw β->Out β
 yld:Pa->List AV->T Blk->Pa->Kw β->Out β
 pk:List Nat->(Nat->Out β)->Out β
abbrev EW (β:Type):=Calls β->Tm->T Blk->Pa->Kw β->Out β
def dw (x:AV) (h:T Blk) (nx:Pa) (K:AV->T Blk->Pa->Out β):Out β:=match x.cells with
 | some l=>yT false l h nx λid h' nx'=>K (.ptr id 0) h' nx'
 | none=>.no 39
def zy5 (x:Arg):EW β:=λ_ tm h nx K=>dw (x.ev tm) h nx K
def zrg (zero:List AV):EW β:=λ_ _ h nx K=>yT false zero h nx λid h' nx'=>K (.ptr id 0) h' nx'
def znr (esz ln:Nat) (zero:List AV) (ps:List (Nat×Nat×Arg)):EW β:=λ_ tm h nx K=>match gE (fB ln zero) (j7 ps tm) with
  | some l=>yT false l h nx λid h' nx'=>K (.sl id 0 ln (some ln) esz) h' nx'
  | none=>.no 40
def qQ (esz:Nat) (bytes:Nat) (zero:List AV) (ln:AV) (cap:AV) (h:T Blk) (nx:Pa) (K:AV->T Blk->Pa->Out β):Out β:=asInt ln (λ_ l=>asInt cap (λ_ c=>match l,c with
  | .ofNat l,.ofNat c=>bif Nat.ble l c&&Nat.ble c 1000000&&Nat.ble (bytes*c) 281474976710656 then
    yT false (fB c zero) h nx λid h' nx'=>K (.sl id 0 l (some c) esz) h' nx'
   else .no 41
  | _,_=>.no 41) (.no 41)) (.no 41)
def zlh (esz bytes:Nat) (zero:List AV) (ln cap:Arg):EW β:=λ_ tm h nx K=>qQ esz bytes zero (ln.ev tm) (cap.ev tm) h nx K
def zrh:EW β:=λ_ _ h nx K=>T.cK .no (.map 0 []) nx h λh'=>K (.map nx) h' nx.succ
def zS (sz:Nat) (a:AV) (x:AV) (h:T Blk) (nx:Pa) (K:AV->T Blk->Pa->Out β):Out β:=rC a (λid off=>uy (T.get .no id h) (λop n t=>match x.cells with
   | some c=>bif Nat.beq c.length sz&&Nat.ble (off+sz) n then
     uB c t off λt'=>T.cK .no (.cells op n t') id h λh'=>K .u h' nx
    else .no 42
   | none=>.no 42) (.no 43)) (λ_=>.no 44) (.no 44)
def zri (sz:Nat) (a x:Arg):EW β:=λ_ tm h nx K=>zS sz (a.ev tm) (x.ev tm) h nx K
def zvh (kk:KK) (m:AV) (k:AV) (x:AV) (h:T Blk) (nx:Pa) (K:AV->T Blk->Pa->Out β):Out β:=tX m (λid=>nQ (T.get .no id h) (λn l=>match wU kk k l with
        | some (some (i,_))=>T.cK .no (.map n (l.modify i λe=>(e.1,x))) id h λh'=>K .u h' nx
        | some none=>qz (n+1) λn=>T.cK .no (.map n (l++[(k,x)])) id h λh'=>K .u h' nx
        | none=>.no 45) (.no 45)) (.no 45) (.no 45)
def zrj (kk:KK) (m k x:Arg):EW β:=λ_ tm h nx K=>zvh kk (m.ev tm) (k.ev tm) (x.ev tm) h nx K
def zrk (kk:KK) (zero:AV) (m:AV) (k:AV) (h:T Blk) (nx:Pa) (K:AV->T Blk->Pa->Out β):Out β:=tX m (λid=>nQ (T.get .no id h) (λn l=>match wU kk k l with
        | some (some (i,v))=>qz i λi=>K (.tup [v,.int .i64 (.ofNat i)]) h nx
        | some none=>T.cK .no (.map (n+1) (l++[(k,zero)])) id h λh'=>K (.tup [zero,.int .i64 (.ofNat n)]) h' nx
        | none=>.no 46) (.no 46)) (.no 46) (.no 46)
def zns (kk:KK) (zero:AV) (m k:Arg):EW β:=λ_ tm h nx K=>zrk kk zero (m.ev tm) (k.ev tm) h nx K
def zvi (m:AV) (s:AV) (x:AV) (h:T Blk) (nx:Pa) (K:AV->T Blk->Pa->Out β):Out β:=tX m (λid=>asInt s (λ_ i=>nQ (T.get .no id h) (λn l=>match i with
   | .ofNat i=>bif Nat.ble (Nat.succ i) n then T.cK .no (.map n (l.modify i λe=>(e.1,x))) id h λh'=>K .u h' nx else .no 47
   | _=>.no 47) (.no 47)) (.no 47)) (.no 47) (.no 47)
def zrl (m s x:Arg):EW β:=λ_ tm h nx K=>zvi (m.ev tm) (s.ev tm) (x.ev tm) h nx K
def zy6 (esz bytes:Nat) (s x:Arg):EW β:=λ_ tm h nx K=>appA esz bytes (s.ev tm) (x.ev tm) h nx K
def zh8 (id:Pa) (off ln esz:Nat) (m:Nat) (t:T AV) (new:List AV) (n:Nat) (h:T Blk) (nx:Pa) (K:Kw β):Out β :=
 uB new t m λt'=>qz (m+n*esz) λm'=>T.cK .no (.cells true m' t') id h λh'=>qz (ln+n) λq=>K (.sl id off q none esz) h' nx
def zjs (C:Calls β) (id:Pa) (off ln e esz bytes:Nat) (x:AV) (h:T Blk) (nx:Pa) (K:Kw β):Out β :=
 wQ x h (.no 30) λnew n=>bif Nat.ble (bytes*1000000) 70368744177664&&Nat.beq new.length (n*esz)&&Nat.ble 1 esz&&new.all uo then
  bif Nat.beq e esz&&Nat.ble (ln+n) 1000000 then
   uy (T.get .no id h) (λop m t=>bif Nat.ble (off+ln*esz) m then
    (bif Nat.ble (off+(ln+n)*esz) m then q9 id off ln none esz op m t new n h nx K
     else bif op&&Nat.beq (off+ln*esz) m then C.pk [0,1] λi=>bif Nat.beq i 0 then zh8 id off ln esz m t new n h nx K else q8 off ln esz t new n h nx K
     else .no 33) else .no 34) (.no 35) else .no 36
  else .no 38
def zcq (C:Calls β) (esz bytes:Nat) (s x:AV) (h:T Blk) (nx:Pa) (K:Kw β):Out β :=
 sU s (λid off ln cap e=>match cap with
  | some _=>appA esz bytes s x h nx K
  | none=>bif Nat.beq off 0 then appA esz bytes s x h nx K else zjs C id off ln e esz bytes x h nx K)
  (appA esz bytes s x h nx K) (.no 37) (λ_=>.no 37) (λ_ _ _=>.no 37) (.no 37)
def zvj (esz bytes:Nat) (s x:Arg):EW β:=λC tm h nx K=>zcq C esz bytes (s.ev tm) (x.ev tm) h nx K
def znt (esz bytes:Nat) (zero:List AV) (s x:AV) (h:T Blk) (nx:Pa) (K:AV->T Blk->Pa->Out β):Out β:=sU s (λ_ _ _ _ _=>.no 39) (asInt x (λ_ n=>match n with
  | .ofNat n=>bif Nat.beq n 0 then .no 39 else bif Nat.ble n 1000000&&Nat.ble (bytes*1000000) 70368744177664&&Nat.ble 1 esz then
    yT true (fB n zero) h nx λid h' nx'=>K (.sl id 0 n none esz) h' nx'
   else .no 39
  | .negSucc _=>.no 39) (.no 39)) (.no 39) (λ_=>.no 39) (λ_ _ _=>.no 39) (.no 39)
def zvk (esz bytes:Nat) (zero:List AV) (s x:Arg):EW β:=λ_ tm h nx K=>znt esz bytes zero (s.ev tm) (x.ev tm) h nx K
def zy7 (esz:Nat) (d:AV) (s:AV) (h:T Blk) (nx:Pa) (K:AV->T Blk->Pa->Out β):Out β:=wQ s h (.no 48) λnew n=>sU d
  (fun id off ln _ _=>qz (Nat.min n ln) fun q=>uy (T.get .no id h) (fun op m t=>bif Nat.ble (off+q*esz) m&&Nat.beq new.length (n*esz)&&new.all uo then
     uB (new.take (q*esz)) t off λt'=>T.cK .no (.cells op m t') id h λh'=>K (.int .i64 (.ofNat q)) h' nx
    else .no 49) (.no 49)) (K (.int .i64 (.ofNat 0)) h nx) (.no 49) (λ_=>.no 49) (λ_ _ _=>.no 49) (.no 49)
def zvl (esz:Nat) (d s:Arg):EW β:=λ_ tm h nx K=>zy7 esz (d.ev tm) (s.ev tm) h nx K
def oL (C:Calls β) (f:AV) (args:List AV) (h:T Blk) (nx:Pa) (K:AV->T Blk->Pa->Out β):Out β:=asFn f (λf p cap=>C.fn f p (args++cap) h nx K) (λid=>C.yld id args h nx K) (asBm f (λf p b=>C.fn f p (b++args) h nx K) (.no 51))
def zh9 (f:Arg) (args:List Arg):EW β:=λC tm h nx K=>oL C (f.ev tm) (args.map (Arg.ev · tm)) h nx K
def znu (x:AV) (h:T Blk) (nx:Pa) (K:AV->T Blk->Pa->Out β):Out β:=tX x (λid=>nQ (T.get .no id h) (λk _=>T.cK .no (.iter id k [] k) nx h λh'=>K (.ptr nx 0) h' nx.succ) (.no 55)) (.no 55) (.no 55)
def zrm (x:Arg):EW β:=λ_ tm h nx K=>znu (x.ev tm) h nx K
def zfr (k:Nat) (seen:List Nat):List Nat:=(List.range k).filter λi => !seen.contains i
def ztm (C:Calls β) (x:AV) (h:T Blk) (nx:Pa) (K:AV->T Blk->Pa->Out β):Out β:=rC x (λid off=>bif Nat.beq off 0 then aH (T.get .no id h) (λmid n seen _=>nQ (T.get .no mid h) (λk l=>bif Nat.beq k n then (match zfr k seen with
   | []=>K (.tup [.bool false]) h nx
   | i::is=>C.pk (i::is) λi=>match l[i]? with
    | some (a,b)=>T.cK .no (.iter mid n (i::seen) k) id h λh'=>K (.tup [.bool true,a,b]) h' nx
    | none=>.no 56) else .no 56) (.no 56)) (.no 56) else .no 56) (λ_=>.no 56) (.no 56)
def zvm (x:Arg):EW β:=λC tm h nx K=>ztm C (x.ev tm) h nx K
def sClr (esz:Nat) (zero:List AV) (s:AV) (h:T Blk) (nx:Pa) (K:AV->T Blk->Pa->Out β):Out β:=sU s
  (fun id off ln _ e=>bif Nat.beq e esz&&Nat.ble 1 ln then uy (T.get .no id h) (fun op m t=>bif Nat.ble (off+ln*esz) m&&Nat.beq zero.length esz&&zero.all uo then
     uB (fB ln zero) t off λt'=>T.cK .no (.cells op m t') id h λh'=>K .u h' nx
    else .no 57) (.no 57) else bif Nat.beq ln 0 then K .u h nx else .no 57) (K .u h nx) (.no 57) (λ_=>.no 57) (λ_ _ _=>.no 57) (.no 57)
def zy8 (esz:Nat) (zero:List AV) (s:Arg):EW β:=λ_ tm h nx K=>sClr esz zero (s.ev tm) h nx K
def WO.ev (o:WO):EW β:=WO.rec (motive:=λ_=>EW β) zy5 zrg znr zlh zrh zri zrj zns zrl zy6 zvl zh9 zrm zvm zy8 zvj zvk o
def mkB (o:WO) (tm:Tm):Bool:=match o with
 | .box x=>(x.ev tm).cells.isSome
 | .alloc _=>true
 | .dz _ ln zero ps=>(gE (fB ln zero) (j7 ps tm)).isSome
 | .sV _ bytes _ ln cap=>match ln.ev tm,cap.ev tm with
  | .int _ (.ofNat l),.int _ (.ofNat c)=>Nat.ble l c&&Nat.ble c 1000000&&Nat.ble (bytes*c) 281474976710656
  | _,_=>false
 | .zab=>true
 | _=>false
def jS (g:Option (Arg×Bool)) (tm:Tm):Bool:=match g with
 | none=>true
 | some (a,want)=>match a.ev tm with
  | .bool b=>b==want
  | _=>false
def zvn (_:AV) (tm:Tm) (k:Tm->Out β):Out β:=k tm
def zvo (v:AV) (tm:Tm) (k:Tm->Out β):Out β:=Tm.rec (λt s=>k ⟨t,v::s⟩) tm
def zjt (p:Pa) (v:AV) (tm:Tm) (k:Tm->Out β):Out β:=Tm.rec (λt s=>T.cK .u v p t λt'=>k ⟨t',s⟩) tm
def rT (d:Dst):AV->Tm->(Tm->Out β)->Out β:=Dst.rec zvn zvo zjt d
abbrev Ks (β:Type):=T AV->T Blk->Pa->Out β
abbrev Kr (β:Type):=Tm->T Blk->Pa->Out β
abbrev ER (β:Type):=Calls β->Tm->T Blk->Pa->Kr β->Out β
def erS (op:PO):ER β:=λ_ tm h nx K=>op.ev tm h λv=>Tm.rec (λt s=>K ⟨t,v::s⟩ h nx) tm
def erQ (d:Pa) (op:PO):ER β:=λ_ tm h nx K=>op.ev tm h λv=>zjt d v tm λtm'=>K tm' h nx
def gK (b:Bool) (op:(AV->Out β)->Out β) (k:AV->Out β):Out β:=bif b then op k else k .u
def gKW (b:Bool) (op:Kw β->Out β) (h:T Blk) (nx:Pa) (k:Kw β):Out β:=bif b then op k else k .u h nx
def gP (g:Option (Arg×Bool)) (tm:Tm) (op:(AV->Out β)->Out β) (k:AV->Out β):Out β:=Option.rec (motive:=λ_=>Out β) (op k) (λga=>gK (jS (some ga) tm) op k) g
def gW (g:Option (Arg×Bool)) (tm:Tm) (op:Kw β->Out β) (h:T Blk) (nx:Pa) (k:Kw β):Out β:=Option.rec (motive:=λ_=>Out β) (op k) (λga=>gKW (jS (some ga) tm) op h nx k) g
theorem ztn (g:Option (Arg×Bool)) (tm:Tm) (op:(AV->Out β)->Out β) (k:AV->Out β):gP g tm op k=bif jS g tm then op k else k .u:=by cases g <;> rfl
theorem zto (g:Option (Arg×Bool)) (tm:Tm) (op:Kw β->Out β) (h:T Blk) (nx:Pa) (k:Kw β):gW g tm op h nx k=bif jS g tm then op k else k .u h nx:=by cases g <;> rfl
def erP (d:Dst) (g:Option (Arg×Bool)) (op:PO):ER β:=λ_ tm h nx K=>gP g tm (op.ev tm h) λv=>rT d v tm λtm'=>K tm' h nx
def erW (d:Dst) (g:Option (Arg×Bool)) (op:WO):ER β:=λC tm h nx K=>gW g tm (op.ev C tm h nx) h nx λv h' nx'=>rT d v tm λtm'=>K tm' h' nx'
def RO.ev (o:RO):ER β:=RO.rec (motive:=λ_=>ER β) erS erQ erP erW o
def zy9:ER β:=λ_ tm h nx K=>K tm h nx
def zvp (o:RO) (_:List RO) (ih:ER β):ER β:=λC tm h nx K=>o.ev C tm h nx λtm h nx=>ih C tm h nx K
def yB (l:List RO):ER β:=List.rec (motive:=λ_=>ER β) zy9 zvp l
structure tK where
 op:PO
 tm:Tm
 v:AV
 n:Nat
def paEq:Pa->Pa->Bool
 | .z,.z=>true
 | .l p,.l q=>paEq p q
 | .r p,.r q=>paEq p q
 | _,_=>false
def zju:Option Nat->Option Nat->Bool
 | none,none=>true
 | some a,some b=>Nat.beq a b
 | _,_=>false
mutual
def aI:AV->AV->Bool
 | .bool a,.bool b=>a==b
 | .int k a,.int k' b=>xG k k'&&ieq a b
 | .str a,.str b=>gN a b
 | .rY,.rY | .za,.za | .rZ,.rZ | .rR,.rR | .esl,.esl=>true
 | .ptr a o,.ptr b p=>paEq a b&&Nat.beq o p
 | .sl a o l c e,.sl a' o' l' c' e'=>paEq a a'&&Nat.beq o o'&&Nat.beq l l'&&zju c c'&&Nat.beq e e'
 | .map a,.map b=>paEq a b
 | .fn f p c,.fn f' p' c'=>Nat.beq f f'&&paEq p p'&&xO c c'
 | .bm f p c,.bm f' p' c'=>Nat.beq f f'&&paEq p p'&&xO c c'
 | .yld a,.yld b=>paEq a b
 | .agg a,.agg b=>xO a b
 | .tup a,.tup b=>xO a b
 | .lst e n a,.lst e' n' b=>Nat.beq e e'&&Nat.beq n n'&&xO a b
 | .fp a,.fp b=>xO a b
 | _,_=>false
def xO:List AV->List AV->Bool
 | [],[]=>true
 | a::l,b::m=>aI a b&&xO l m
 | _,_=>false
end
def qR (h:T Blk):List tK->Out β->Out β
 | [],k=>k
 | p::ps,k=>p.op.ev p.tm h λv=>bif aI v p.v then qR h ps k else .no 90
def eF:List tK->List tK
 | []=>[]
 | p::ps=>bif Nat.ble p.n 1 then eF ps else ⟨p.op,p.tm,p.v,Nat.sub p.n 1⟩::eF ps
def addP (c:Nat) (op:PO) (tm:Tm) (v:AV) (ps:List tK):List tK:=bif Nat.beq c 0 then ps else ⟨op,tm,v,c⟩::ps
def tL (cs:List WO) (tm:Tm) (k:Out β):Out β:=List.rec (motive:=λ_=>Out β) k (λ_ _ _=>bif cs.all (λo=>mkB o tm) then k else .no 91) cs
def evD:List (RO×Nat×List WO)->List tK->ER β
 | [],_=>λ_ tm h nx K=>K tm h nx
 |(.s op,c,cs)::l,ps=>λC tm h nx K=>op.ev tm h λv=>tL cs ⟨tm.v,v::tm.s⟩ (evD l (addP c op tm v ps) C ⟨tm.v,v::tm.s⟩ h nx K)
 |(.q d op,c,cs)::l,ps=>λC tm h nx K=>op.ev tm h λv=>zjt d v tm λtm'=>tL cs tm' (evD l (addP c op tm v ps) C tm' h nx K)
 |(.p d g op,c,cs)::l,ps=>λC tm h nx K=>Nat.rec (motive:=λ_=>Out β) (gP g tm (op.ev tm h) λv=>rT d v tm λtm'=>tL cs tm' (evD l ps C tm' h nx K))
   (λc _=>bif jS g tm then op.ev tm h λv=>rT d v tm λtm'=>tL cs tm' (evD l (addP (Nat.succ c) op tm v ps) C tm' h nx K)
    else rT d .u tm λtm'=>tL cs tm' (evD l ps C tm' h nx K)) c
 |(.w d g op,_,cs)::l,ps=>λC tm h nx K=>gW g tm (λk=>op.ev C tm h nx λv h' nx'=>qR h' ps (k v h' nx')) h nx λv h' nx'=>rT d v tm λtm'=>tL cs tm' (evD l (eF ps) C tm' h' nx' K)
structure fD (β:Type) where
 ex:Nat->Ks β
 rt:Ks β
abbrev EI (β:Type):=Calls β->Nat->fD β->Ks β->Ks β
def zvq:EI β:=λ_ _ _ K=>K
def znv (l:List RO):EI β:=λC _ _ K tm h nx=>yB l C ⟨tm,[]⟩ h nx λtm h nx=>Tm.rec (λt _=>K t h nx) tm
def znw (c0:List WO) (l:List (RO×Nat×List WO)):EI β:=λC _ _ K tm h nx=>tL c0 ⟨tm,[]⟩ (evD l [] C ⟨tm,[]⟩ h nx λtm h nx=>Tm.rec (λt _=>K t h nx) tm)
def zza (_ _:IR) (iha ihb:EI β):EI β:=λC n O K=>iha C n O (ihb C n O K)
def zvr (c:Arg) (_ _:IR) (iha ihb:EI β):EI β:=λC n O K tm h nx=>asBool (c.ev ⟨tm,[]⟩) (λt=>Bool.rec (ihb C n O K tm h nx) (iha C n O K tm h nx) t) (.no 60)
def zrn (id:Nat) (_:IR) (ih:EI β):EI β:=λC n O K=>ih C n { O with ex:=λi=>bif Nat.beq i id then K else O.ex i } K
def zvs (_:IR) (ih:EI β):EI β:=λC n O _=>Nat.rec (motive:=λ_=>Ks β) (λ_ _ _=>.no 61) (λ_ ihn=>ih C n O ihn) n
def zfs (O:fD β) (K:Ks β) (st:LSt) (j:Jump):Ks β:=match st with
 | .busy=>λ_ _ _=>.no 62
 | _=>match j with
  | .none=>K
  | .ret=>O.rt
  | .exit id=>O.ex id
def eiRf (f:Arg) (ps:List Pa) (a b:IR) (_ _:EI β):EI β:=λC _ O K tm h nx =>
 T.cK .no (.loop .ready .none tm ps a b) nx h λh' =>
  asFn (f.ev ⟨tm,[]⟩) (λf p cap=>C.fn f p (AV.yld nx::cap) h' nx.succ λ_ h nx'=>pM (T.get .no nx h) (λst j _ _ _ _=>T.cK .no .no nx h λh=>zfs O K st j tm h nx') (.no 63)) (λ_=>.no 64) (.no 64)
def zvt (id:Nat):EI β:=λ_ _ O _=>O.ex id
def zzb:EI β:=λ_ _ O _=>O.rt
def zzc (n:Nat):EI β:=λ_ _ _ _ _ _ _=>.no (100+n)
def IR.run (c:IR):EI β:=IR.rec (motive:=λ_=>EI β) zvq znv znw zza zvr zrn zvs eiRf zvt zzb zzc c
def resA (l:List RV) (tm:T AV) (h:T Blk) (K:List AV->Out β):Out β :=
 List.rec (motive:=λ_=>(List AV->Out β)->Out β) (λK=>K [])
  (fun r _ ih K=>match r with
   | .t p=>ih λl=>K (T.get .u p tm::l)
   | .cell p sz=>match sz with
    | some s=>zdv s (.t p) ⟨tm,[]⟩ h λv=>ih λl=>K (v::l)
    | none=>zae (.t p) ⟨tm,[]⟩ h λv=>ih λl=>K (v::l)) l K
def resV:List AV->AV
 | [v]=>v
 | l=>.tup l
def zR (fns:T (Option Fn)) (fuel:Nat) (C:Calls β) (p:Pa) (args:List AV) (h:T Blk) (nx:Pa) (K:Kw β):Out β :=
 Option.rec (motive:=λ_=>Out β) (.no 83) (λF=>kG F.params args F.init λtm =>
  F.body.run C fuel ⟨λ_ _ _ _=>.no 82,λtm h nx=>resA F.res tm h λl=>K (resV l) h nx⟩ (λtm h nx=>resA F.res tm h λl=>K (resV l) h nx) tm h nx) (T.get none p fns)
def vN (id:Pa) (K:Kw β) (j:Jump) (v:Bool):Ks β:=λ_ h nx =>
 pM (T.get .no id h) (λ_ _ tm ps a b=>T.cK .no (.loop (bif v then .ready else .done) j tm ps a b) id h λh'=>K (.bool v) h' nx) (.no 84)
def zdy (fuel:Nat) (C:Calls β) (id:Pa) (args:List AV) (h:T Blk) (nx:Pa) (K:Kw β):Out β :=
 pM (T.get .no id h) (λ_ _ tm ps a b=>kG ps args tm λtm' =>
  a.run C fuel ⟨λ_ _ _ _=>.no 85,λ_ _ _=>.no 85⟩ (λtm'' h nx =>
   pM (T.get .no id h) (λst j tm ps x y=>match st with
    | .ready=>T.cK .no (.loop .busy j tm ps x y) id h λh' =>
      b.run C fuel ⟨λi=>vN id K (.exit i) false,vN id K .ret false⟩ (vN id K .none true) tm'' h' nx
    | _=>.no 86) (.no 86)) tm' h nx) (.no 87)
end
end Go.Ev
namespace Go.Ev
open Go
def aU:Nat->Value->Option AV
 | 0,_=>none
 | d+1,v=>match v with
  | .bool b=>some (.bool b)
  | .int k n=>some (.int k n)
  | .string s=>some (.str s.data.toList)
  | .pointer none=>some .rY
  | .slice none 0 0=>some .za
  | .map none=>some .rZ
  | .nilFunc=>some .rR
  | .agg cs=>match cs.toList.mapM (aU d) with
   | some l=>bif l.all uo then some (.agg l) else none
   | none=>none
  | .tuple cs=>(cs.toList.mapM (aU d)).map .tup
  | _=>none
section
variable (P:Program)
def dF (t:TypeId):Option (Option Nat) :=
 match P.underlying t with
 | some (.struct _) | some (.array _ _)=>(P.info? t).map λi=>some i.size
 | some _=>some none
 | none=>none
def nU (t:TypeId):Option Nat:=(P.info? t).map (·.size)
def gZ (t:TypeId):Option AV:=((P.info? t).bind (·.zero)).bind (aU 8)
def isInt (t:TypeId):Bool:=match P.underlying t with | some (.int _)=>true | _=>false
variable (loc st:List Nat)
def rV (t:Nat):Option Pa:=(loc.findIdx? (Nat.beq t)).map .of
def dmy:Nat:=4294967295
def yh:Operand->Option Arg
 | .tmp t=>bif Nat.beq t dmy then none else match rV loc t with
  | some p=>some (.t p)
  | none=>(st.findIdx? (Nat.beq t)).map .s
 | .const v=>(aU 8 v).map .c
 | .func f=>some (.c (.fn f (.of f) []))
 | .global g=>match layG g with
  | []=>none
  | _::_=>some (.c (.fp (oo g)))
def r9:Option Operand->Option (Option Arg)
 | none=>some none
 | some x=>(yh loc st x).map some
def vJ (l:Array Operand):Option (List Arg):=l.toList.mapM (yh loc st)
def gY (place:Nat->Option (Nat×Nat)) (l:List (Nat×Operand)):Option (List (Nat×Nat×Arg)) :=
 l.mapM λ(i,x)=>match place i,yh loc st x with
  | some (o,s),some a=>some (o,s,a)
  | _,_=>none
def kW (fs:Array Field) (i:Nat):Option (Nat×Nat):=match fs[i]? with
 | some f=>(nU P f.type).map λs=>(f.offset,s)
 | none=>none
def qV (t:TypeId):Option KK:=match P.underlying t with
 | some (.int _)=>some .int
 | some .string=>some .str
 | some .bool=>some .bool
 | some (.array n e)=>match isInt P e,nU P e with
  | true,some 1=>some (.agg n)
  | _,_=>none
 | _=>none
def poA (o:Op):Option PO :=
 match o with
 | .move x | .assign x=>(yh loc st x).map .mv
 | .pick c a b=>match yh loc st c,yh loc st a,yh loc st b with
  | some c,some a,some b=>some (.pick c a b)
  | _,_,_=>none
 | .build t ps=>match gZ P t,P.underlying t with
  | some z,some (.struct fs)=>match bif fs.toList.all (λf=>(P.info? f.type).isSome) then z.cells else none,gY loc st (kW P fs) ps.toList with
   | some z,some ps=>some (.build z ps)
   | _,_=>none
  | some z,some (.array _ e)=>match nU P e with
   | some s=>match z.cells,gY loc st (λi=>some (i*s,s)) ps.toList with
    | some z,some ps=>some (.build z ps)
    | _,_=>none
   | none=>none
  | _,_=>none
 | .field t x i=>match P.underlying t,yh loc st x with
  | some (.struct fs),some x=>match fs[i]? with
   | some f=>(dF P f.type).map λs=>.part f.offset s x
   | none=>none
  | _,_=>none
 | .extract x i=>(yh loc st x).map (.ext i)
 | .binOp op t x y _=>match yh loc st x,yh loc st y with
  | some x,some y=>match P.underlying t with
   | some (.int _)=>some (.bin op .int x y)
   | some .string=>some (.bin op .str x y)
   | some .bool=>some (.bin op .bool x y)
   | some (.slice _)=>some (.bin op (.nil .sl) x y)
   | some (.map _ _)=>some (.bin op (.nil .mp) x y)
   | some (.func _ _ _)=>some (.bin op (.nil .fn) x y)
   | some (.pointer _)=>some (.bin op (.nil .pt) x y)
   | some (.array n e)=>match isInt P e,nU P e with
    | true,some 1=>some (.bin op (.agg n) x y)
    | _,_=>none
   | _=>none
  | _,_=>none
 | .unOp op _ x=>match op,yh loc st x with
  | .neg,some x=>some (.neg x)
  | .not,some x=>some (.not x)
  | _,_=>none
 | .convert s d x=>match yh loc st x with
  | some x=>match P.underlying s,P.underlying d with
   | some (.int _),some (.int k)=>some (.conv k x)
   | some (.slice e),some .string=>match P.underlying e with
    | some (.int .u8)=>some (.b2s x)
    | _=>none
   | _,_=>none
  | none=>none
 | .load t x=>match yh loc st x,dF P t with
  | some x,some none=>some (.load x)
  | some x,some (some s)=>some (.zm s x)
  | _,_=>none
 | .makeFunc (.func f) first cap=>match first.size,vJ loc st cap with
  | 0,some c=>some (.fn f (.of f) c)
  | _,_=>none
 | .slice t x lo hi mx=>match P.underlying t,yh loc st x,r9 loc st lo,r9 loc st hi,r9 loc st mx with
  | some .string,some x,some lo,some hi,some none=>some (.oZ x lo hi)
  | some (.slice e),some x,some lo,some hi,some mx=>(nU P e).map λs=>.slice s x lo hi mx
  | some (.array n e),some x,some lo,some hi,some mx=>(nU P e).map λs=>.aslice s n x lo hi mx
  | _,_,_,_,_=>none
 | .fieldAddr t x i=>match P.underlying t,yh loc st x with
  | some (.struct fs),some x=>match fs[i]? with
   | some f=>match nU P f.type with
    | some (_+1)=>some (.oW f.offset x)
    | _=>none
   | none=>none
  | _,_=>none
 | .indexAddr t x i=>match yh loc st x,yh loc st i with
  | some x,some i=>match P.underlying t with
   | some (.array n e)=>(nU P e).map λs=>.zfq s n x i
   | some (.slice e)=>(nU P e).map λs=>.tJ s x i
   | _=>none
  | _,_=>none
 | .index t x i=>match yh loc st x,yh loc st i with
  | some x,some i=>match P.underlying t with
   | some .string=>some (.sidx x i)
   | _=>none
  | _,_=>none
 | .lookup t m k ok=>match yh loc st m,yh loc st k with
  | some m,some k=>match P.underlying t with
   | some (.map kt e)=>match qV P kt,gZ P e with
    | some q,some z=>some (.look q z ok m k)
    | _,_=>none
   | _=>none
  | _,_=>none
 | .call { callee:=.builtin b,args,argTypes }=>match b,args.toList with
  | .len,[x]=>match yh loc st x,(argTypes[0]?).bind P.underlying with
   | some x,some .string=>some (.slen x)
   | some x,some (.slice _)=>some (.len x)
   | _,some (.array n _)=>some (.mv (.c (.int .i64 n)))
   | _,_=>none
  | .cap,[x]=>match yh loc st x,(argTypes[0]?).bind P.underlying with
   | some x,some (.slice _)=>some (.capz x)
   | _,_=>none
  | .min,x::xs=>match yh loc st x,xs.mapM (yh loc st) with
   | some x,some xs=>some (.zaa false x xs)
   | _,_=>none
  | .max,x::xs=>match yh loc st x,xs.mapM (yh loc st) with
   | some x,some xs=>some (.zaa true x xs)
   | _,_=>none
  | _,_=>none
 | _=>none
def woA (o:Op):Option WO :=
 match o with
 | .alloc t=>match gZ P t with
  | some z=>z.cells.map .alloc
  | none=>none
 | .box _ x=>(yh loc st x).map .box
 | .buildSlice t n ps=>match P.underlying t with
  | some (.slice e)=>match nU P e,gZ P e with
   | some s,some z=>match Nat.ble (n*s) 16777216,gY loc st (λi=>some (i*s,s)) ps.toList,z.cells with
    | true,some ps,some z=>bif Nat.beq z.length s then some (.dz s n z ps) else none
    | _,_,_=>none
   | _,_=>none
  | _=>none
 | .store t a x=>match nU P t,yh loc st a,yh loc st x with
  | some s,some a,some x=>some (.store s a x)
  | _,_,_=>none
 | .makeMap _ none=>some .zab
 | .makeSlice t l c=>match P.underlying t with
  | some (.slice e)=>match P.info? e,gZ P e,yh loc st l,yh loc st c with
   | some i,some z,some l,some c=>match z.cells with
    | some z=>bif Nat.beq z.length i.size then some (.sV i.size i.bytes z l c) else none
    | none=>none
   | _,_,_,_=>none
  | _=>none
 | .mapUpdate t m k x | .insert t m k x=>match yh loc st m,yh loc st k,yh loc st x with
  | some m,some k,some x=>match P.underlying t with
   | some (.map kt _)=>match qV P kt with
    | some q=>some (.znf q m k x)
    | none=>none
   | _=>none
  | _,_,_=>none
 | .call { callee:=.builtin b,args,argTypes }=>match b,args.toList with
  | .append,[s,x]=>match yh loc st s,yh loc st x,(argTypes[0]?).bind P.underlying,(argTypes[1]?).bind P.underlying with
   | some s,some x,some (.slice e),some (.slice _) | some s,some x,some (.slice e),some .string=>match P.info? e,(gZ P e).bind AV.cells with
    | some i,some z=>bif Nat.beq z.length i.size then some (bif Nat.beq i.bytes 32 then .appq i.size i.bytes s x else .app i.size i.bytes s x) else none
    | _,_=>none
   | some s,some x,some (.slice e),some (.int _)=>match P.info? e,(gZ P e).bind AV.cells with
    | some i,some z=>bif Nat.beq z.length i.size then some (.appm i.size i.bytes z s x) else none
    | _,_=>none
   | _,_,_,_=>none
  | _,_=>none
 | .call { callee:=.value f,args,.. }=>match yh loc st f,vJ loc st args with
  | some f,some args=>some (.call f args)
  | _,_=>none
 | _=>none
def kY (ops:Array Oper) (o:Oper):Option (Option (Arg×Bool)):=match o.guard with
  | none=>some none
  | some (j,w)=>match (ops[j]?).bind (·.dst) with
   | some t=>(yh loc st (.tmp t)).map λa=>some (a,w)
   | none=>none
variable (N:Nat)
def tN:Option Nat->Option (Dst×List Nat)
 | none=>some (.none,st)
 | some t=>match Nat.ble (t+1) N,rV loc t with
  | true,some p=>some (.loc p,st)
  | true,none=>bif st.any (Nat.beq t) then none else some (.push,t::st)
  | false,_=>none
def roA (ops:Array Oper) (o:Oper):Option (RO×List Nat) :=
 match kY loc st ops o,tN loc st N o.dst with
 | some g,some (d,st')=>match poA P loc st o.op with
  | some p=>match d,g with
   | .push,none=>some (.s p,st')
   | .loc d,none=>some (.q d p,st')
   | d,g=>some (.p d g p,st')
  | none=>match woA P loc st o.op with
   | some p=>some (.w d g p,st')
   | none=>none
 | _,_=>none
def rosA (ops:Array Oper):List Oper->List Nat->Option (List RO)
 | [],_=>some []
 | o::l,st=>match roA P loc st N ops o with
  | some (r,st')=>match rosA ops l st' with
   | some rs=>some (r::rs)
   | none=>none
  | none=>none
def wV (o:Oper):List Nat:=(o.after.toList.filter (Region.binds .any)).map (·.on)
def cH (acc:List Nat) (o:Oper):Nat:=(wV o).foldl (λm j=>m ||| (2 ^ j ||| acc.getD j 0)) 0
def ni:List Oper->List Nat->List Nat
 | [],acc=>acc
 | o::l,acc=>ni l (acc++[cH acc o])
def uQ:List Oper->Nat->Bool
 | [],_=>true
 | o::l,j=>(wV o).all (λe=>Nat.ble (e+1) j)&&uQ l (j+1)
def zcr:Op->Bool
 | .alloc _ | .box .. | .buildSlice .. | .store .. | .makeMap .. | .makeSlice .. | .mapUpdate .. | .insert .. | .mapEntry .. | .entryStore .. | .range .. | .next .. => true
 | .call { callee:=.builtin b,.. }=>match b with
  | .append | .copy | .clear=>true
  | _=>false
 | .call _=>true
 | _=>false
def isMk:Op->Bool
 | .alloc _ | .box .. | .buildSlice .. | .makeMap .. | .makeSlice .. => true
 | _=>false
def gL (ops:Array Oper) (j:Nat):Bool:=match ops[j]? with
 | some o=>zcr o.op
 | none=>false
def m9 (ops:Array Oper) (o:Oper):List Nat:=o.dst.toList++o.looksAt ops
def zah (ops:Array Oper) (x y:Oper):Bool:=x.dst.any (λt=>(m9 ops y).any (Nat.beq t))||y.dst.any (λt=>(m9 ops x).any (Nat.beq t))
def vC (ops:Array Oper) (an:List Nat):Bool :=
 (List.range ops.size).all λj=>match ops[j]? with
  | some y=>(List.range j).all λi=>match ops[i]? with
   | some x=>bif zah ops x y then (an.getD j 0).testBit i else true
   | none=>false
  | none=>false
def zdz (ops:Array Oper) (i:Nat):Bool:=match ops[i]? with
 | some o=>isMk o.op
 | none=>false
def ou (ops:Array Oper) (an:List Nat) (j:Nat):Bool:=match ops[j]? with
 | some o=>isMk o.op&&o.guard.isNone&&(List.range ops.size).all (λi => !((an.getD j 0).testBit i&&zdz ops i)) &&
   (List.range ops.size).any (λi=>gL ops i && !Nat.beq i j && !(an.getD j 0).testBit i && !(an.getD i 0).testBit j)
 | none=>false
def wlA (an fr:List Nat):List Nat->Nat->List Nat
 | [],pl=>fr.filter λf => !pl.testBit f
 | w::ws,pl=>(fr.filter λf => !pl.testBit f&&(an.getD w 0).testBit f)++w::wlA an fr ws (pl ||| an.getD w 0)
def posA (an:List Nat) (j:Nat):List Nat->Nat->Nat->Nat->Nat×Nat
 | [],_,k,d=>(k,d)
 | w::ws,i,k,d=>posA an j ws (i+1) (bif (an.getD j 0).testBit w then i+1 else k) (bif (an.getD w 0).testBit j then d else i+1)
def zzd (ops:Array Oper) (an wl:List Nat):List (Nat×Nat) :=
 (fun rs=>(List.range (wl.length+1)).flatMap fun k=>(rs.filter fun (r:Nat×Nat×Nat)=>Nat.beq r.2.1 k).map (fun r=>(r.1,r.2.2-r.2.1))++match wl[k]? with
   | some w=>[(w,0)]
   | none=>[])
  (((List.range ops.size).filter λj => !gL ops j).map λj=>(j,posA an j wl 0 0 0))
def permA (ops:Array Oper) (an fr:List Nat):List (Nat×Nat):=zzd ops an (wlA an fr ((List.range ops.size).filter λj=>gL ops j && !fr.any (Nat.beq j)) 0)
def uV (ops:Array Oper) (an fr:List Nat):List (Nat×Nat)->Nat->Nat->Nat->Nat->Bool
 | [],_,_,_,_=>true
 |(y,c)::l,done,uz,qj,fp=>Nat.beq ((an.getD y 0) &&& done) (an.getD y 0) && !done.testBit y&&Nat.ble (y+1) ops.size &&
  bif gL ops y then (bif fr.any (Nat.beq y) then uV ops an fr l (done ||| 2 ^ y) (uz ||| 2 ^ y) qj (fp ||| 2 ^ y)
   else Nat.beq ((an.getD y 0) &&& qj) qj&&Nat.beq ((an.getD y 0) &&& fp) fp&&uV ops an fr l (done ||| 2 ^ y) (uz ||| 2 ^ y) (qj ||| 2 ^ y) 0)
  else Nat.beq ((an.getD y 0) &&& uz) uz&&((l.filter λz=>gL ops z.1).drop c).all (λz=>(an.getD z.1 0).testBit y)&&uV ops an fr l (done ||| 2 ^ y) uz qj fp
def isW:RO->Bool
 | .w .. => true
 | _=>false
def chkO (ops:Array Oper) (st:List Nat) (f:Nat):Option WO:=match ops[f]? with
 | some o=>woA P loc st o.op
 | none=>none
def chkA (ops:Array Oper) (st:List Nat) (fs:List Nat):Option (List WO):=fs.mapM (chkO P loc ops st)
def nowA (an fr:List Nat) (done done':Nat):List Nat:=fr.filter λf=>Nat.beq ((an.getD f 0) &&& done') (an.getD f 0) && !Nat.beq ((an.getD f 0) &&& done) (an.getD f 0)
def rosP (ops:Array Oper) (an fr:List Nat):List (Nat×Nat)->List Nat->Nat->Option (List (RO×Nat×List WO))
 | [],_,_=>some []
 |(j,c)::l,st,done=>match ops[j]? with
  | some o=>match roA P loc st N ops o with
   | some (r,st')=>bif isW r==zcr o.op then match chkA P loc ops st' (nowA an fr done (done ||| 2 ^ j)),rosP ops an fr l st' (done ||| 2 ^ j) with
     | some cs,some rs=>some ((r,c,cs)::rs)
     | _,_=>none
    else none
   | none=>none
  | none=>none
def ztp (ops:Array Oper) (an fr:List Nat):Option (List WO×List (RO×Nat×List WO)) :=
 bif uQ ops.toList 0&&vC ops an&&fr.all (ou ops an)&&(List.range ops.size).all (λi=>(permA ops an fr).any λz=>Nat.beq z.1 i)&&uV ops an fr (permA ops an fr) 0 0 0 0
 then match chkA P loc ops [] (fr.filter λf=>Nat.beq (an.getD f 0) 0),rosP P loc N ops an fr (permA ops an fr) [] 0 with
  | some cs,some rs=>some (cs,rs)
  | _,_=>none
 else none
def znx (ops:Array Oper):Option (List WO×List (RO×Nat×List WO)) :=
 ztp P loc N ops (ni ops.toList []) ((List.range ops.size).filter (ou ops (ni ops.toList [])))
def irA:Code->IR
 | .skip=>.skip
 | .region id ops d=>match d with
  | true=>match znx P loc N ops with
   | some (cs,l)=>.rq cs l
   | none=>.bad id
  | false=>match rosA P loc N ops ops.toList [] with
   | some l=>.reg l
   | none=>.bad id
 | .seq a b=>.seq (irA a) (irA b)
 | .cond c a b=>match yh loc [] c with
  | some c=>.cond c (irA a) (irA b)
  | none=>.bad 900
 | .block id b=>.block id (irA b)
 | .loop b=>.loop (irA b)
 | .rangeFunc f ps a b=>match yh loc [] f,ps.toList.mapM (rV loc) with
  | some f,some ps=>.rf f ps (irA a) (irA b)
  | _,_=>.bad 901
 | .exit id=>.exit id
 | .scope b=>irA b
 | .label _=>.skip
 | .goto _=>.bad 902
 | .ret=>.ret
 | .refuse _=>.bad 903
def rvA:ResultVar->Option RV
 | .tmp t=>bif Nat.beq t dmy then none else (rV loc t).map .t
 | .cell a t=>match (bif Nat.beq a dmy then none else rV loc a),dF P t with
  | some p,some s=>some (.cell p s)
  | _,_=>none
end
section
variable (P:Program)
def kS (loc:List Nat):Nat->Option (List Pa)
 | 0=>some []
 | n+1=>match kS loc n,rV loc n with
  | some l,some p=>some (l++[p])
  | _,_=>none
def zjv (n:Nat):T AV:=Nat.rec .e (λk t=>T.cK .u .u (.of k) t λt=>t) n
def fnA (f:Func) (loc:List Nat):Option Fn :=
 match loc.all (λt=>Nat.ble (t+1) f.ntmps)&&Nat.ble (f.params.size+f.nfree) f.ntmps,f.body,f.results.toList.mapM (rvA P loc),kS loc (f.params.size+f.nfree) with
 | true,some b,some r,some ps=>some { params:=ps,res:=r,body:=irA P loc f.ntmps b,init:=zjv loc.length }
 | _,_,_,_=>none
end
end Go.Ev
