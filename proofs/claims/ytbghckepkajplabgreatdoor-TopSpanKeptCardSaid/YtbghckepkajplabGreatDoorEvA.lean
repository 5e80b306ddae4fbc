import Derived.CallsIn
import Derived.OrdersIn
set_option linter.unusedSimpArgs false
set_option linter.unusedVariables false
noncomputable section
namespace Go.Ev
abbrev Zgu := @List.getElem?_eq_getElem
abbrev Zgv := @List.getElem?_eq_some_iff
abbrev Zgw := @List.getElem?_map
abbrev Zgx := @List.getElem?_append_right
abbrev Zgy := @Array.getElem?_eq_some_iff
abbrev Zgz := @List.getElem?_eq_none
abbrev Zha := @List.getElem?_append_left
abbrev Zhb := @List.getElem?_take_of_lt
abbrev Zhc := @List.getElem?_set_self
abbrev Zhd := @Array.getElem?_eq_getElem
abbrev Zhe := @List.getElem?_drop
abbrev Zhf := @List.getElem?_set_ne
abbrev Zhg := @List.getElem?_cons_succ
abbrev Zhh := @List.getElem?_zipWith
abbrev Zhi := @Array.getElem?_setIfInBounds
abbrev Zhj := @List.getElem?_append
abbrev Zhk := @List.getElem?_of_mem
abbrev Zhl := @List.getElem?_take
abbrev Zhm := @List.getElem?_set
abbrev Zhn := @List.getElem?_replicate
abbrev Zho := @List.getElem?_toArray
abbrev Zhp := @Array.getElem?_modify
abbrev Zhq := @Array.getElem?_toList
abbrev Zhr := @List.getElem?_range
abbrev Zhs := @List.findIdx?_eq_some_iff_getElem
abbrev Zht := @Array.getElem?_push
abbrev Zaa := @List.getD_eq_getElem?_getD
abbrev Zab := @decide_eq_false
abbrev Zac := @decide_eq_true
abbrev Zad := @List.mem_of_getElem?
abbrev Zae := @List.length_map
abbrev Zaf := @Nat.le_refl
abbrev Zag := @List.length_append
abbrev Zah := @Bool.not_true
abbrev Zai := @List.mem_cons_self
abbrev Zaj := @List.length_take
abbrev Zak := @Nat.ble_eq_true_of_le
abbrev Zal := @Bool.not_false
abbrev Zam := @List.mem_cons_of_mem
abbrev Zan := @List.take_of_length_le
abbrev Zao := @List.mem_map
abbrev Zap := @Bool.and_eq_true
abbrev Zaq := @List.mem_cons
abbrev Zar := @List.take_add_one
abbrev Zas := @List.getElem_mem
abbrev Zat := @List.length_set
abbrev Zau := @List.mem_iff_getElem?
abbrev Zav := @List.drop_eq_getElem_cons
abbrev Zaw := @List.all_eq_true
abbrev Zax := @Option.map_eq_some_iff
abbrev Zay := @List.mem_range
abbrev Zaz := @List.length_replicate
abbrev Zba := @List.mem_singleton
abbrev Zbb := @List.mem_append
abbrev Zbc := @List.length_cons
abbrev Zbd := @Nat.zero_add
abbrev Zbe := @Nat.le_trans
abbrev Zbf := @List.nil_append
abbrev Zbg := @List.drop_of_length_le
abbrev Zbh := @List.append_nil
abbrev Zbi := @List.map_append
abbrev Zbj := @Int.natAbs_natCast
abbrev Zbk := @Nat.mul_le_mul_right
abbrev Zbl := @Nat.mul_le_mul
abbrev Zbm := @List.length_reverse
abbrev Zbn := @List.mem_of_mem_take
abbrev Zbo := @Rat.mul_zero
abbrev Zbp := @List.ext_getElem?
abbrev Zbq := @Array.getD_eq_getD_getElem?
abbrev Zbr := @List.mem_filter
abbrev Zbs := @List.cons_append
abbrev Zbt := @List.mem_or_eq_of_mem_set
abbrev Zbu := @Nat.add_mul
abbrev Zbv := @Nat.min_eq_left
abbrev Zbw := @List.length_singleton
abbrev Zbx := @Nat.mod_eq_of_lt
abbrev Zby := @List.mem_flatMap
abbrev Zbz := @Nat.beq_refl
abbrev Zca := @List.pairwise_iff_getElem
abbrev Zcb := @List.mapM_cons
abbrev Zcc := @List.nodup_cons
abbrev Zcd := @List.filter_cons
abbrev Zce := @Rat.zero_mul
abbrev Zcf := @List.nodup_append
abbrev Zcg := @List.append_assoc
abbrev Zch := @Nat.add_sub_cancel_left
abbrev Zci := @Int.natAbs_mul
abbrev Zcj := @Array.toArray_toList
abbrev Zck := @Int.mul_le_mul_of_nonneg_right
abbrev Zcl := @List.length_drop
abbrev Zcm := @List.eq_nil_of_length_eq_zero
abbrev Zcn := @Nat.mul_one
abbrev Zco := @List.foldl_cons
abbrev Zcp := @Rat.num_eq_zero
abbrev Zcq := @List.append_of_mem
abbrev Zcr := @List.mem_append_left
abbrev Zcs := @List.take_length
abbrev Zct := @Nat.lt_irrefl
abbrev Zcu := @Nat.add_assoc
abbrev Zcv := @Nat.sub_self
abbrev Zcw := @List.drop_zero
abbrev Zcx := @List.flatMap_cons
abbrev Zcy := @Option.map_some
abbrev Zcz := @Rat.intCast_neg
abbrev Zda := @List.mem_append_right
abbrev Zdb := @Nat.mul_comm
abbrev Zdc := @Nat.lt_of_lt_of_le
abbrev Zdd := @Nat.lt_of_le_of_lt
abbrev Zde := @Option.toList_some
abbrev Zdf := @List.length_range
abbrev Zdg := @List.map_congr_left
abbrev Zdh := @List.map_cons
abbrev Zdi := @List.nodup_range
abbrev Zdj := @List.take_zero
abbrev Zdk := @List.length_mapIdx
abbrev Zdl := @Nat.zero_le
abbrev Zdm := @Bool.or_eq_true
abbrev Zdn := @Nat.div_le_self
abbrev Zdo := @Int.mul_le_mul_of_nonneg_left
abbrev Zdp := @List.length_zipWith
abbrev Zdq := @List.filter_sublist
abbrev Zdr := @Nat.mod_lt
abbrev Zds := @Bool.false_eq_true
abbrev Zdt := @Nat.add_comm
abbrev Zdu := @Nat.pow_succ
abbrev Zdv := @Nat.lt_or_ge
abbrev Zdw := @List.perm_append_singleton
abbrev Zdx := @Bool.eq_false_iff
abbrev Zdy := @List.any_eq_false
abbrev Zdz := @List.pairwise_map
abbrev Zea := @Int.mul_nonneg_of_nonpos_of_nonpos
abbrev Zeb := @Int.ofNat_eq_natCast
abbrev Zec := @Nat.pow_le_pow_right
abbrev Zed := @Int.natAbs_neg
abbrev Zee := @Nat.add_zero
abbrev Zef := @List.ext_getElem
abbrev Zeg := @List.getElem_of_mem
abbrev Zeh := @Option.bind_eq_some_iff
abbrev Zei := @List.length_eq_zero_iff
abbrev Zej := @Nat.mul_assoc
abbrev Zek := @List.pairwise_cons
abbrev Zel := @Nat.eq_zero_or_pos
abbrev Zem := @Nat.mul_add
abbrev Zen := @Rat.neg_num
abbrev Zeo := @Nat.testBit_or
abbrev Zep := @List.map_set
abbrev Zeq := @Bool.or_eq_false_iff
abbrev Zer := @List.perm_middle
abbrev Zes := @Nat.div_eq_of_lt
abbrev Zet := @List.reverse_reverse
abbrev Zeu := @Nat.mul_lt_mul''
abbrev Zev := @List.all_cons
abbrev Zew := @Int.tmod_eq_emod_of_nonneg
abbrev Zex := @List.replicate_succ
abbrev Zey := @List.length_nil
abbrev Zez := @List.all_append
abbrev Zfa := @Bool.eq_iff_iff
abbrev Zfb := @List.take_left'
abbrev Zfc := @List.of_mem_zip
abbrev Zfd := @Nat.pos_of_ne_zero
abbrev Zfe := @List.map_map
abbrev Zff := @List.set_cons_zero
abbrev Zfg := @Nat.gcd_comm
abbrev Zfh := @Rat.sub_eq_add_neg
abbrev Zfi := @List.set_cons_succ
abbrev Zfj := @Rat.mul_comm
abbrev Zfk := @List.drop_drop
abbrev Zfl := @Int.pow_nonneg
abbrev Zfm := @List.filter_congr
abbrev Zfn := @List.reverse_cons
abbrev Zfo := @List.set_eq_take_append_cons_drop
abbrev Zfp := @List.drop_eq_nil_of_le
abbrev Zfq := @List.zipWith_cons_cons
abbrev Zfr := @List.map_take
abbrev Zfs := @Nat.le_of_not_lt
abbrev Zft := @List.any_eq_true
abbrev Zfu := @Array.all_eq_true_iff_forall_mem
abbrev Zfv := @Int.gcd_dvd_left
abbrev Zfw := @List.take_append_drop
abbrev Zfx := @List.set_append_right
abbrev Zfy := @Nat.div_lt_iff_lt_mul
abbrev Zfz := @Int.not_lt
abbrev Zga := @List.range_succ
abbrev Zgb := @List.mem_erase_of_ne
abbrev Zgc := @List.perm_cons_erase
abbrev Zgd := @Int.natCast_pos
abbrev Zge := @Rat.intCast_mul
abbrev Zgf := @Nat.mul_le_mul_left
abbrev Zgg := @Int.natAbs_mul_self
abbrev Zgh := @List.mem_map_of_mem
abbrev Zgi := @Int.mul_nonneg
abbrev Zgj := @Nat.pow_pos
abbrev Zgk := @Rat.neg_den
abbrev Zgl := @Int.le_refl
abbrev Zgm := @Nat.gcd_zero_right
abbrev Zgn := @Int.tmod_lt_of_pos
abbrev Zgo := @Bool.or_false
abbrev Zgp := @Bool.and_true
abbrev Zgq := @Int.toNat_natCast
abbrev Zgr := @Int.gcd_dvd_right
abbrev Zgs := @List.foldl_append
abbrev Zgt := @Nat.le_succ_of_le
open Go
inductive Pa where
 | z | l (p:Pa) | r (p:Pa)
def Pa.succ (p:Pa):Pa:=Pa.rec (.l .z) (λp _=>.r p) (λ_ ih=>.l ih) p
def Pa.toNat:Pa->Nat
 | .z=>0
 | .l p=>2*p.toNat+1
 | .r p=>2*p.toNat+2
def Pa.zak (d:Nat):Nat->Pa :=
 Nat.rec (motive:=λ_=>Nat->Pa) (λ_=>.z) (λ_ ih n=>bif Nat.beq n 0 then .z else bif Nat.beq (Nat.mod n 2) 1 then .l (ih (Nat.div n 2)) else .r (ih (Nat.sub (Nat.div n 2) 1))) d
def Pa.of (n:Nat):Pa:=Pa.zak (n+1) n
inductive T (α:Type) where
 | e | n (l:T α) (v:α) (r:T α)
def T.getZ {α:Type} (d:α) (t:T α):α:=T.rec d (λ_ v _ _ _=>v) t
def T.getL {α:Type} (d:α) (_:Pa) (ih:T α->α) (t:T α):α:=T.rec d (λl _ _ _ _=>ih l) t
def T.getR {α:Type} (d:α) (_:Pa) (ih:T α->α) (t:T α):α:=T.rec d (λ_ _ r _ _=>ih r) t
def T.get {α:Type} (d:α) (p:Pa):T α->α:=Pa.rec (T.getZ d) (T.getL d) (T.getR d) p
def T.setZ {α β:Type} (_ x:α) (t:T α) (k:T α->β):β:=T.rec (k (.n .e x .e)) (λl _ r _ _=>k (.n l x r)) t
def T.setL {α β:Type} (d:α) (_:Pa) (ih:α->T α->(T α->β)->β) (x:α) (t:T α) (k:T α->β):β :=
 T.rec (ih x .e λl'=>k (.n l' d .e)) (λl v r _ _=>ih x l λl'=>k (.n l' v r)) t
def T.setR {α β:Type} (d:α) (_:Pa) (ih:α->T α->(T α->β)->β) (x:α) (t:T α) (k:T α->β):β :=
 T.rec (ih x .e λr'=>k (.n .e d r')) (λl v r _ _=>ih x r λr'=>k (.n l v r')) t
def T.fq {α β:Type} (d x:α) (p:Pa):T α->(T α->β)->β :=
 Pa.rec (motive:=λ_=>α->T α->(T α->β)->β) (T.setZ d) (T.setL d) (T.setR d) p x
inductive AV where
 | bool (b:Bool)
 | int (k:IntKind) (n:Int)
 | str (s:List UInt8)
 | tK
 | ptr (id:Pa) (off:Nat)
 | zb
 | sl (id:Pa) (off len:Nat) (cap:Option Nat) (esz:Nat)
 | esl
 | sM
 | map (id:Pa)
 | sK
 | fn (f:Nat) (p:Pa) (cap:List AV)
 | bm (f:Nat) (p:Pa) (first:List AV)
 | yld (id:Pa)
 | agg (l:List AV)
 | tup (l:List AV)
 | lst (esz ln:Nat) (l:List AV)
 | fp (l:List AV)
def AV.u:AV:=.tup []
def AV.cells (v:AV):Option (List AV):=AV.rec (motive_1:=λ_=>Option (List AV)) (motive_2:=λ_=>Unit)
  (λb=>some [.bool b]) (λk n=>some [.int k n]) (λs=>some [.str s]) (some [.tK]) (λid off=>some [.ptr id off]) (some [.zb])
  (λid off ln cap esz=>some [.sl id off ln cap esz]) (some [.esl]) (some [.sM]) (λid=>some [.map id]) (some [.sK]) (λf p cap _=>some [.fn f p cap]) (λf p cap _=>some [.bm f p cap]) (λid=>some [.yld id])
  (λl _=>some l) (λ_ _=>none) (λe n l _=>some [.lst e n l]) (λl _=>some [.fp l]) () (λ_ _ _ _=>()) v
def gy:AV->Bool
 | .agg _ | .tup _=>false
 | _=>true
inductive Out (β:Type) where
 | ok (x:β) | no (n:Nat)
def asBool {β:Type} (v:AV):(Bool->Out β)->Out β->Out β :=
 AV.rec (motive_1:=λ_=>(Bool->Out β)->Out β->Out β) (motive_2:=λ_=>Unit)
  (λa0 k0 _=>k0 a0)
  (λ_ _ _ no=>no)
  (λ_ _ no=>no)
  (λ_ no=>no)
  (λ_ _ _ no=>no)
  (λ_ no=>no)
  (λ_ _ _ _ _ _ no=>no)
  (λ_ no=>no)
  (λ_ no=>no)
  (λ_ _ no=>no)
  (λ_ no=>no)
  (λ_ _ _ _ _ no=>no)
  (λ_ _ _ _ _ no=>no)
  (λ_ _ no=>no)
  (λ_ _ _ no=>no)
  (λ_ _ _ no=>no)
  (λ_ _ _ _ _ no=>no)
  (λ_ _ _ no=>no)
  () (λ_ _ _ _=>()) v
def asInt {β:Type} (v:AV):(IntKind->Int->Out β)->Out β->Out β :=
 AV.rec (motive_1:=λ_=>(IntKind->Int->Out β)->Out β->Out β) (motive_2:=λ_=>Unit)
  (λ_ _ no=>no)
  (λa0 a1 k0 _=>k0 a0 a1)
  (λ_ _ no=>no)
  (λ_ no=>no)
  (λ_ _ _ no=>no)
  (λ_ no=>no)
  (λ_ _ _ _ _ _ no=>no)
  (λ_ no=>no)
  (λ_ no=>no)
  (λ_ _ no=>no)
  (λ_ no=>no)
  (λ_ _ _ _ _ no=>no)
  (λ_ _ _ _ _ no=>no)
  (λ_ _ no=>no)
  (λ_ _ _ no=>no)
  (λ_ _ _ no=>no)
  (λ_ _ _ _ _ no=>no)
  (λ_ _ _ no=>no)
  () (λ_ _ _ _=>()) v
def tH {β:Type} (v:AV):(List UInt8->Out β)->Out β->Out β :=
 AV.rec (motive_1:=λ_=>(List UInt8->Out β)->Out β->Out β) (motive_2:=λ_=>Unit)
  (λ_ _ no=>no)
  (λ_ _ _ no=>no)
  (λa0 k0 _=>k0 a0)
  (λ_ no=>no)
  (λ_ _ _ no=>no)
  (λ_ no=>no)
  (λ_ _ _ _ _ _ no=>no)
  (λ_ no=>no)
  (λ_ no=>no)
  (λ_ _ no=>no)
  (λ_ no=>no)
  (λ_ _ _ _ _ no=>no)
  (λ_ _ _ _ _ no=>no)
  (λ_ _ no=>no)
  (λ_ _ _ no=>no)
  (λ_ _ _ no=>no)
  (λ_ _ _ _ _ no=>no)
  (λ_ _ _ no=>no)
  () (λ_ _ _ _=>()) v
def rZ {β:Type} (v:AV):(Pa->Nat->Out β)->(List AV->Out β)->Out β->Out β :=
 AV.rec (motive_1:=λ_=>(Pa->Nat->Out β)->(List AV->Out β)->Out β->Out β) (motive_2:=λ_=>Unit)
  (λ_ _ _ no=>no)
  (λ_ _ _ _ no=>no)
  (λ_ _ _ no=>no)
  (λ_ _ no=>no)
  (λa0 a1 k0 _ _=>k0 a0 a1)
  (λ_ _ no=>no)
  (λ_ _ _ _ _ _ _ no=>no)
  (λ_ _ no=>no)
  (λ_ _ no=>no)
  (λ_ _ _ no=>no)
  (λ_ _ no=>no)
  (λ_ _ _ _ _ _ no=>no)
  (λ_ _ _ _ _ _ no=>no)
  (λ_ _ _ no=>no)
  (λ_ _ _ _ no=>no)
  (λ_ _ _ _ no=>no)
  (λ_ _ _ _ _ _ no=>no)
  (λa0 _ _ k1 _=>k1 a0)
  () (λ_ _ _ _=>()) v
def asAgg {β:Type} (v:AV):(List AV->Out β)->Out β->Out β :=
 AV.rec (motive_1:=λ_=>(List AV->Out β)->Out β->Out β) (motive_2:=λ_=>Unit)
  (λ_ _ no=>no)
  (λ_ _ _ no=>no)
  (λ_ _ no=>no)
  (λ_ no=>no)
  (λ_ _ _ no=>no)
  (λ_ no=>no)
  (λ_ _ _ _ _ _ no=>no)
  (λ_ no=>no)
  (λ_ no=>no)
  (λ_ _ no=>no)
  (λ_ no=>no)
  (λ_ _ _ _ _ no=>no)
  (λ_ _ _ _ _ no=>no)
  (λ_ _ no=>no)
  (λa0 _ k0 _=>k0 a0)
  (λ_ _ _ no=>no)
  (λ_ _ _ _ _ no=>no)
  (λ_ _ _ no=>no)
  () (λ_ _ _ _=>()) v
def zgu {β:Type} (v:AV):(List AV->Out β)->Out β->Out β :=
 AV.rec (motive_1:=λ_=>(List AV->Out β)->Out β->Out β) (motive_2:=λ_=>Unit)
  (λ_ _ no=>no)
  (λ_ _ _ no=>no)
  (λ_ _ no=>no)
  (λ_ no=>no)
  (λ_ _ _ no=>no)
  (λ_ no=>no)
  (λ_ _ _ _ _ _ no=>no)
  (λ_ no=>no)
  (λ_ no=>no)
  (λ_ _ no=>no)
  (λ_ no=>no)
  (λ_ _ _ _ _ no=>no)
  (λ_ _ _ _ _ no=>no)
  (λ_ _ no=>no)
  (λ_ _ _ no=>no)
  (λa0 _ k0 _=>k0 a0)
  (λ_ _ _ _ _ no=>no)
  (λ_ _ _ no=>no)
  () (λ_ _ _ _=>()) v
def aJ {β:Type} (v:AV):(Pa->Out β)->Out β->Out β->Out β :=
 AV.rec (motive_1:=λ_=>(Pa->Out β)->Out β->Out β->Out β) (motive_2:=λ_=>Unit)
  (λ_ _ _ no=>no)
  (λ_ _ _ _ no=>no)
  (λ_ _ _ no=>no)
  (λ_ _ no=>no)
  (λ_ _ _ _ no=>no)
  (λ_ _ no=>no)
  (λ_ _ _ _ _ _ _ no=>no)
  (λ_ _ no=>no)
  (λ_ k1 _=>k1)
  (λa0 k0 _ _=>k0 a0)
  (λ_ _ no=>no)
  (λ_ _ _ _ _ _ no=>no)
  (λ_ _ _ _ _ _ no=>no)
  (λ_ _ _ no=>no)
  (λ_ _ _ _ no=>no)
  (λ_ _ _ _ no=>no)
  (λ_ _ _ _ _ _ no=>no)
  (λ_ _ _ _ no=>no)
  () (λ_ _ _ _=>()) v
def asFn {β:Type} (v:AV):(Nat->Pa->List AV->Out β)->(Pa->Out β)->Out β->Out β :=
 AV.rec (motive_1:=λ_=>(Nat->Pa->List AV->Out β)->(Pa->Out β)->Out β->Out β) (motive_2:=λ_=>Unit)
  (λ_ _ _ no=>no)
  (λ_ _ _ _ no=>no)
  (λ_ _ _ no=>no)
  (λ_ _ no=>no)
  (λ_ _ _ _ no=>no)
  (λ_ _ no=>no)
  (λ_ _ _ _ _ _ _ no=>no)
  (λ_ _ no=>no)
  (λ_ _ no=>no)
  (λ_ _ _ no=>no)
  (λ_ _ no=>no)
  (λa0 a1 a2 _ k0 _ _=>k0 a0 a1 a2)
  (λ_ _ _ _ _ _ no=>no)
  (λa0 _ k1 _=>k1 a0)
  (λ_ _ _ _ no=>no)
  (λ_ _ _ _ no=>no)
  (λ_ _ _ _ _ _ no=>no)
  (λ_ _ _ _ no=>no)
  () (λ_ _ _ _=>()) v
def asBm {β:Type} (v:AV):(Nat->Pa->List AV->Out β)->Out β->Out β :=
 AV.rec (motive_1:=λ_=>(Nat->Pa->List AV->Out β)->Out β->Out β) (motive_2:=λ_=>Unit)
  (λ_ _ no=>no)
  (λ_ _ _ no=>no)
  (λ_ _ no=>no)
  (λ_ no=>no)
  (λ_ _ _ no=>no)
  (λ_ no=>no)
  (λ_ _ _ _ _ _ no=>no)
  (λ_ no=>no)
  (λ_ no=>no)
  (λ_ _ no=>no)
  (λ_ no=>no)
  (λ_ _ _ _ _ no=>no)
  (λa0 a1 a2 _ k0 _=>k0 a0 a1 a2)
  (λ_ _ no=>no)
  (λ_ _ _ no=>no)
  (λ_ _ _ no=>no)
  (λ_ _ _ _ _ no=>no)
  (λ_ _ _ no=>no)
  () (λ_ _ _ _=>()) v
def ai {β:Type} (v:AV):(Pa->Nat->Nat->Option Nat->Nat->Out β)->Out β->Out β->(List UInt8->Out β)->(Nat->Nat->List AV->Out β)->Out β->Out β :=
 AV.rec (motive_1:=λ_=>(Pa->Nat->Nat->Option Nat->Nat->Out β)->Out β->Out β->(List UInt8->Out β)->(Nat->Nat->List AV->Out β)->Out β->Out β) (motive_2:=λ_=>Unit)
  (λ_ _ _ _ _ _ no=>no)
  (λ_ _ _ _ _ _ _ no=>no)
  (λa0 _ _ _ k3 _ _=>k3 a0)
  (λ_ _ _ _ _ no=>no)
  (λ_ _ _ _ _ _ _ no=>no)
  (λ_ k1 _ _ _ _=>k1)
  (λa0 a1 a2 a3 a4 k0 _ _ _ _ _=>k0 a0 a1 a2 a3 a4)
  (λ_ _ k2 _ _ _=>k2)
  (λ_ _ _ _ _ no=>no)
  (λ_ _ _ _ _ _ no=>no)
  (λ_ _ _ _ _ no=>no)
  (λ_ _ _ _ _ _ _ _ _ no=>no)
  (λ_ _ _ _ _ _ _ _ _ no=>no)
  (λ_ _ _ _ _ _ no=>no)
  (λ_ _ _ _ _ _ _ no=>no)
  (λ_ _ _ _ _ _ _ no=>no)
  (λa0 a1 a2 _ _ _ _ _ k4 _=>k4 a0 a1 a2)
  (λ_ _ _ _ _ _ _ no=>no)
  () (λ_ _ _ _=>()) v
inductive Arg where
 | t (p:Pa) | s (k:Nat) | c (v:AV)
inductive Dst where
 | none | push | loc (p:Pa)
inductive NK where
 | sl | mp | fn | pt
inductive Cls where
 | int | str | bool | nil (k:NK) | agg (n:Nat)
inductive KK where
 | int | str | bool | agg (n:Nat)
inductive PO where
 | mv (x:Arg)
 | pick (c a b:Arg)
 | build (zero:List AV) (parts:List (Nat×Nat×Arg))
 | part (off:Nat) (sz:Option Nat) (x:Arg)
 | ext (i:Nat) (x:Arg)
 | bin (op:BinOp) (c:Cls) (x y:Arg)
 | neg (x:Arg)
 | not (x:Arg)
 | com (x:Arg)
 | conv (k:IntKind) (x:Arg)
 | strs (x:Arg)
 | load (x:Arg)
 | zi (sz:Nat) (x:Arg)
 | nilc (x:Arg)
 | zal (off:Nat) (x:Arg)
 | aB (esz:Nat) (x i:Arg)
 | zk9 (esz:Nat) (ln:Nat) (x i:Arg)
 | idx (esz:Nat) (agg:Bool) (ln:Nat) (x i:Arg)
 | sidx (x i:Arg)
 | slice (esz:Nat) (x:Arg) (lo hi mx:Option Arg)
 | zam (x:Arg) (lo hi:Option Arg)
 | len (x:Arg)
 | slen (x:Arg)
 | mlen (x:Arg)
 | capz (x:Arg)
 | aslice (esz ln:Nat) (x:Arg) (lo hi mx:Option Arg)
 | look (kk:KK) (zero:AV) (ok:Bool) (m k:Arg)
 | fn (f:Nat) (p:Pa) (cap:List Arg)
 | bm (f:Nat) (p:Pa) (first:List Arg)
 | b2s (x:Arg)
 | zan (mx:Bool) (x:Arg) (xs:List Arg)
 | entry (x:Arg)
def layG (g:Nat):List Nat:=bif Nat.beq g 2 then [1,10,100,1000,10000,100000,1000000,10000000,100000000,1000000000,10000000000,100000000000,1000000000000,10000000000000,100000000000000,1000000000000000,10000000000000000,100000000000000000,1000000000000000000,10000000000000000000] else []
def layL (g:Nat):List AV:=(layG g).map λn=>.int .u64 (.ofNat n)
inductive WO where
 | box (x:Arg)
 | alloc (zero:List AV)
 | qw (esz ln:Nat) (zero:List AV) (parts:List (Nat×Nat×Arg))
 | tV (esz bytes:Nat) (zero:List AV) (ln cap:Arg)
 | eX
 | store (sz:Nat) (a x:Arg)
 | zpi (kk:KK) (m k x:Arg)
 | mapent (kk:KK) (zero:AV) (m k:Arg)
 | entst (m s x:Arg)
 | app (esz bytes:Nat) (s x:Arg)
 | copy (esz:Nat) (d s:Arg)
 | call (f:Arg) (args:List Arg)
 | range (x:Arg)
 | next (x:Arg)
 | clr (esz:Nat) (zero:List AV) (s:Arg)
 | appq (esz bytes:Nat) (s x:Arg)
 | appm (esz bytes:Nat) (zero:List AV) (s x:Arg)
inductive RO where
 | s (op:PO)
 | q (dst:Pa) (op:PO)
 | p (dst:Dst) (guard:Option (Arg×Bool)) (op:PO)
 | w (dst:Dst) (guard:Option (Arg×Bool)) (op:WO)
inductive IR where
 | skip
 | reg (l:List RO)
 | wm (c0:List WO) (l:List (RO×Nat×List WO))
 | seq (a b:IR)
 | cond (c:Arg) (a b:IR)
 | block (id:Nat) (b:IR)
 | loop (b:IR)
 | rf (f:Arg) (ps:List Pa) (a b:IR)
 | exit (id:Nat)
 | ret
 | bad (n:Nat)
inductive Jump where
 | none | ret | exit (id:Nat)
inductive LSt where
 | ready | busy | done
inductive Blk where
 | no
 | cells (op:Bool) (n:Nat) (t:T AV)
 | map (n:Nat) (l:List (AV×AV))
 | loop (st:LSt) (j:Jump) (tm:T AV) (ps:List Pa) (a b:IR)
 | iter (m:Pa) (n:Nat) (seen:List Nat) (c:Nat)
def qb {β:Type} (b:Blk) (k:Bool->Nat->T AV->Out β) (no:Out β):Out β :=
 Blk.rec (motive:=λ_=>(Bool->Nat->T AV->Out β)->Out β->Out β) (λ_ no=>no) (λop n t k _=>k op n t) (λ_ _ _ no=>no) (λ_ _ _ _ _ _ _ no=>no) (λ_ _ _ _ _ no=>no) b k no
def ni {β:Type} (b:Blk) (k:Nat->List (AV×AV)->Out β) (no:Out β):Out β :=
 Blk.rec (motive:=λ_=>(Nat->List (AV×AV)->Out β)->Out β->Out β) (λ_ no=>no) (λ_ _ _ _ no=>no) (λn l k _=>k n l) (λ_ _ _ _ _ _ _ no=>no) (λ_ _ _ _ _ no=>no) b k no
def zao {β:Type} (b:Blk) (k:LSt->Jump->T AV->List Pa->IR->IR->Out β) (no:Out β):Out β :=
 Blk.rec (motive:=λ_=>(LSt->Jump->T AV->List Pa->IR->IR->Out β)->Out β->Out β) (λ_ no=>no) (λ_ _ _ _ no=>no) (λ_ _ _ no=>no) (λst j tm ps a b k _=>k st j tm ps a b) (λ_ _ _ _ _ no=>no) b k no
def aK {β:Type} (b:Blk) (k:Pa->Nat->List Nat->Nat->Out β) (no:Out β):Out β :=
 Blk.rec (motive:=λ_=>(Pa->Nat->List Nat->Nat->Out β)->Out β->Out β) (λ_ no=>no) (λ_ _ _ _ no=>no) (λ_ _ _ no=>no) (λ_ _ _ _ _ _ _ no=>no) (λm n s c k _=>k m n s c) b k no
inductive RV where
 | t (p:Pa) | cell (p:Pa) (sz:Option Nat)
structure Fn where
 params:List Pa
 res:List RV
 body:IR
 init:T AV
def dw {β:Type} (n:Nat) (k:Nat->β):β:=Nat.rec (k 0) (λm _=>k (Nat.succ m)) n
def wu {β:Type} (z:Int) (k:Int->β):β:=Int.rec (λn=>dw n λn=>k (.ofNat n)) (λn=>dw n λn=>k (.negSucc n)) z
def iadd (a b:Int):Int:=Int.rec (λm=>Int.rec (λn=>.ofNat (Nat.add m n)) (λ_=>a+b) b) (λ_=>a+b) a
def zla (z:Int):Int:=Int.rec (λn=>bif Nat.ble n 9223372036854775807 then .ofNat n else IntKind.wrap .i64 (.ofNat n))
 (λn=>bif Nat.ble n 9223372036854775807 then .negSucc n else IntKind.wrap .i64 (.negSucc n)) z
def kK (k:IntKind):Int->Int:=IntKind.rec (motive:=λ_=>Int->Int) (IntKind.wrap .i8) (IntKind.wrap .i16) (IntKind.wrap .i32) zla (IntKind.wrap .u8) (IntKind.wrap .u16) (IntKind.wrap .u32) (IntKind.wrap .u64) k
def ilt (a b:Int):Bool :=
 Int.rec (λm=>Int.rec (λn=>Nat.ble (Nat.succ m) n) (λ_=>false) b) (λm=>Int.rec (λ_=>true) (λn=>Nat.ble (Nat.succ n) m) b) a
def ieq (a b:Int):Bool :=
 Int.rec (λm=>Int.rec (λn=>Nat.beq m n) (λ_=>false) b) (λm=>Int.rec (λ_=>false) (λn=>Nat.beq m n) b) a
def zw9:IntKind->Nat
 | .i8=>0 | .i16=>1 | .i32=>2 | .i64=>3 | .u8=>4 | .u16=>5 | .u32=>6 | .u64=>7
def vB (a b:IntKind):Bool:=Nat.beq (zw9 a) (zw9 b)
def j5:List UInt8->List UInt8->Bool
 | [],[]=>true
 | a::x,b::y=>bif Nat.beq a.toNat b.toNat then j5 x y else false
 | _,_=>false
structure Tm where
 v:T AV
 s:List AV
def nthN (l:List AV):AV:=List.rec .u (λv _ _=>v) l
def nthS (_:Nat) (ih:List AV->AV) (l:List AV):AV:=List.rec .u (λ_ l _=>ih l) l
def nth (k:Nat):List AV->AV:=Nat.rec nthN nthS k
def evT (p:Pa) (tm:Tm):AV:=Tm.rec (λv _=>T.get .u p v) tm
def evS (k:Nat) (tm:Tm):AV:=Tm.rec (λ_ s=>nth k s) tm
def evC (v:AV) (_:Tm):AV:=v
def Arg.ev (a:Arg):Tm->AV:=Arg.rec evT evS evC a
section
variable {β:Type}
abbrev BI (β:Type):=IntKind->Int->Int->Out β->(AV->Out β)->Out β
def qbo:BI β:=λk a b _ K=>wu (kK k (iadd a b)) λz=>K (.int k z)
def qbp:BI β:=λk a b _ K=>wu (kK k (a-b)) λz=>K (.int k z)
def qbq:BI β:=λk a b _ K=>wu (kK k (a*b)) λz=>K (.int k z)
def qbr:BI β:=λk a b no K=>bif ieq b 0 then no else wu (k.wrap (a.tdiv b)) λz=>K (.int k z)
def qbs:BI β:=λk a b no K=>bif ieq b 0 then no else wu (a.tmod b) λz=>K (.int k z)
def qbt:BI β:=λk a b _ K=>wu (k.wrap (BitVec.ofInt k.bits a &&& BitVec.ofInt k.bits b).toNat) λz=>K (.int k z)
def biOr:BI β:=λk a b _ K=>wu (k.wrap (BitVec.ofInt k.bits a ||| BitVec.ofInt k.bits b).toNat) λz=>K (.int k z)
def qbu:BI β:=λk a b _ K=>wu (k.wrap (BitVec.ofInt k.bits a ^^^ BitVec.ofInt k.bits b).toNat) λz=>K (.int k z)
def zpj:BI β:=λk a b _ K=>wu (k.wrap (BitVec.ofInt k.bits a &&& ~~~BitVec.ofInt k.bits b).toNat) λz=>K (.int k z)
def qbw:BI β:=λk a b no K=>bif ilt b 0 then no else wu (k.wrap (a*2 ^ (min b.toNat k.bits))) λz=>K (.int k z)
def qbx:BI β:=λk a b no K=>bif ilt b 0 then no else wu (a.fdiv (2 ^ (min b.toNat k.bits))) λz=>K (.int k z)
def qby:BI β:=λ_ a b _ K=>K (.bool (ieq a b))
def qbz:BI β:=λ_ a b _ K=>K (.bool (!ieq a b))
def qb0:BI β:=λ_ a b _ K=>K (.bool (ilt a b))
def qb1:BI β:=λ_ a b _ K=>K (.bool (!ilt b a))
def qb2:BI β:=λ_ a b _ K=>K (.bool (ilt b a))
def qb3:BI β:=λ_ a b _ K=>K (.bool (!ilt a b))
def zjc (op:BinOp):BI β:=BinOp.rec (motive:=λ_=>BI β) qbo qbp qbq qbr qbs qbt biOr qbu qbw qbx zpj qby qbz qb0 qb1 qb2 qb3 op
def zlb (op:BinOp):Bool:=BinOp.rec (motive:=λ_=>Bool) false false false false false false false false true true false false false false false false false op
def isEq (op:BinOp):Option Bool:=BinOp.rec (motive:=λ_=>Option Bool) none none none none none none none none none none none (some true) (some false) none none none none op
def uY:NK->AV->Option Bool
 | .sl,.zb=>some true
 | .sl,.sl .. => some false
 | .sl,.esl=>some false
 | .sl,.lst _ n _=>bif Nat.ble 1 n then some false else none
 | .mp,.sM=>some true
 | .mp,.map _=>some false
 | .fn,.sK=>some true
 | .fn,.fn .. => some false
 | .pt,.tK=>some true
 | .pt,.ptr .. => some false
 | .pt,.fp _=>some false
 | _,_=>none
def kY:List AV->List AV->Option Bool
 | [],[]=>some true
 | .int k a::l,.int k' b::l'=>bif vB k k' then (bif ieq a b then kY l l' else some false) else none
 | _,_=>none
abbrev BA (β:Type):=BinOp->AV->AV->(AV->Out β)->Out β
def bQ (op:BinOp) (r:Bool) (K:AV->Out β):Out β:=match isEq op with
 | some true=>K (.bool r)
 | some false=>K (.bool (!r))
 | none=>.no 5
def qb4:BA β:=λop x y K=>asInt x (λk a=>asInt y (λk' b=>bif zlb op||vB k k' then zjc op k a b (.no 5) K else .no 5) (.no 5)) (.no 5)
def qb5:BA β:=λop x y K=>tH x (λa=>tH y (λb=>match op with
  | .add=>bif Nat.ble (a.length+b.length) 1000000 then K (.str (a++b)) else .no 5
  | op=>bQ op (j5 a b) K) (.no 5)) (.no 5)
def zyk:BA β:=λop x y K=>asBool x (λa=>asBool y (λb=>bQ op (a==b) K) (.no 5)) (.no 5)
def zpk (k:NK):BA β:=λop x y K=>match uY k x,uY k y with
  | some b,some true=>bQ op b K
  | _,_=>.no 5
def zpl (n:Nat):BA β:=λop x y K=>asAgg x (λa=>asAgg y (λb=>bif Nat.beq a.length n&&Nat.beq b.length n then (match kY a b with
  | some r=>bQ op r K
  | none=>.no 5) else .no 5) (.no 5)) (.no 5)
def zpm (c:Cls):BA β:=Cls.rec (motive:=λ_=>BA β) qb4 qb5 zyk zpk zpl c
end
def yR (t:T AV):Nat->Nat->List AV :=
 λoff n=>Nat.rec (motive:=λ_=>Nat->List AV) (λ_=>[]) (λ_ ih off=>T.get .u (.of off) t::ih (off+1)) n off
def uW {β:Type} (l:List AV):T AV->Nat->(T AV->β)->β :=
 List.rec (motive:=λ_=>T AV->Nat->(T AV->β)->β) (λt _ k=>k t) (λv _ ih t off k=>T.fq .u v (.of off) t λt'=>ih t' (off+1) k) l
def zex {β:Type} (l:List AV) (k:Nat->T AV->β):β:=uW l .e 0 λt=>k l.length t
def gN (l:List AV) (off:Nat) (c:List AV):List AV:=l.take off++c++l.drop (off+c.length)
def gL (l:List AV):List (Nat×Nat×AV)->Option (List AV)
 | []=>some l
 |(off,sz,v)::rest=>match v.cells with
  | some c=>bif Nat.beq c.length sz&&Nat.ble (off+sz) l.length then gL (gN l off c) rest else none
  | none=>none
def j8 (ps:List (Nat×Nat×Arg)) (tm:Tm):List (Nat×Nat×AV):=ps.map λ(o,s,a)=>(o,s,a.ev tm)
def fe (n:Nat) (z:List AV):List AV:=Nat.rec [] (λ_ ih=>z++ih) n
def kJ (v:AV) (y:Nat):Option Nat:=match v with
 | .int _ (.ofNat n)=>bif Nat.ble n y then some n else none
 | _=>none
def u6:KK->AV->AV->Option Bool
 | .str,.str a,.str b=>some (j5 a b)
 | .int,.int k a,.int k' b=>bif vB k k' then some (ieq a b) else none
 | .bool,.bool a,.bool b=>some (a==b)
 | .agg _,.agg a,.agg b=>kY a b
 | _,_,_=>none
def dX:KK->AV->Bool
 | .agg n,.agg l=>Nat.beq l.length n
 | .agg _,_=>false
 | _,_=>true
def xD (kk:KK) (k:AV):List (AV×AV)->Nat->Option (Option (Nat×AV))
 | [],_=>some none
 |(k',v)::l,i=>match u6 kk k k' with
  | some true=>some (some (i,v))
  | some false=>xD kk k l (i+1)
  | none=>none
def kQ (kk:KK) (k:AV) (l:List (AV×AV)):Option (Option (Nat×AV)):=bif dX kk k then xD kk k l 0 else none
def b2sA:List AV->Option (List UInt8)
 | []=>some []
 | .int .u8 n::l=>match b2sA l with
  | some s=>some (UInt8.ofNat n.toNat::s)
  | none=>none
 | _=>none
def minA (mx:Bool):AV->List AV->Option AV
 | x,[]=>some x
 | .int k a,.int k' b::l=>bif vB k k' then minA mx (.int k (bif (bif mx then ilt a b else ilt b a) then b else a)) l else none
 | _,_=>none
section
variable {β:Type}
def bnd (o:Option AV) (y d:Nat):Option Nat:=match o with
 | some v=>kJ v y
 | none=>some d
def mM (id:Pa) (off ln cap esz:Nat) (lo hi mx:Option AV) (K:AV->Out β):Out β :=
 bif mx.isSome&&hi.isNone then .no 17 else
 match bnd mx cap cap with
 | none=>.no 17
 | some m=>match bnd hi m ln with
  | none=>.no 17
  | some h=>match bnd lo h 0 with
   | none=>.no 17
   | some l=>bif Nat.beq m l then K (.sl id off (h-l) (some 0) esz)
    else dw (off+l*esz) λoff=>dw (h-l) λh=>dw (m-l) λm=>K (.sl id off h (some m) esz)
def zaq (id:Pa) (off ln esz:Nat) (lo hi mx:Option AV) (K:AV->Out β):Out β :=
 match mx with
 | none=>match bnd hi ln ln with
  | none=>.no 17
  | some h=>match bnd lo h 0 with
   | none=>.no 17
   | some l=>bif Nat.beq l 0 then K (.sl id off h none esz) else bif Nat.ble (l+1) ln then dw (off+l*esz) λoff=>dw (h-l) λh=>K (.sl id off h none esz) else K .esl
 | some mv=>bif hi.isNone then .no 17 else match kJ mv ln with
  | none=>.no 17
  | some m=>match bnd hi m 0 with
   | none=>.no 17
   | some h=>match bnd lo h 0 with
    | none=>.no 17
    | some l=>bif Nat.beq m l then .no 17 else dw (off+l*esz) λoff=>dw (h-l) λh=>dw (m-l) λm=>K (.sl id off h (some m) esz)
def zjd (esz n:Nat) (l:List AV) (lo hi mx:Option AV) (K:AV->Out β):Out β :=
 bif mx.isSome&&hi.isNone then .no 17 else match bnd mx n n with
 | none=>.no 17
 | some m=>match bnd hi m n with
  | none=>.no 17
  | some h=>match bnd lo h 0 with
   | none=>.no 17
   | some q=>K (.lst esz (h-q) ((l.drop (q*esz)).take ((h-q)*esz)))
def zey (lo hi mx:Option AV) (K:AV->Out β):Out β :=
 match mx,bnd hi 0 0,bnd lo 0 0 with
 | none,some _,some _=>K .zb
 | _,_,_=>.no 17
def zar (esz:Nat) (x:AV) (lo hi mx:Option AV) (K:AV->Out β):Out β :=
 ai x (λid off ln cap e=>bif Nat.beq e esz then (match cap with | some c=>mM id off ln c esz lo hi mx K | none=>zaq id off ln esz lo hi mx K) else .no 17)
  (zey lo hi mx K) (.no 17) (λ_=>.no 17) (λe n l=>bif Nat.beq e esz&&Nat.ble 1 n then zjd esz n l lo hi mx K else .no 17) (.no 17)
abbrev EP (β:Type):=Tm->T Blk->(AV->Out β)->Out β
def epMv (x:Arg):EP β:=λtm _ K=>K (x.ev tm)
def yO (c:AV) (a:AV) (b:AV) (K:AV->Out β):Out β:=asBool c (λt=>K (bif t then a else b)) (.no 1)
def zyl (c a b:Arg):EP β:=λtm _ K=>yO (c.ev tm) (a.ev tm) (b.ev tm) K
def zez (zero:List AV) (ps:List (Nat×Nat×Arg)):EP β:=λtm _ K=>match gL zero (j8 ps tm) with
  | some l=>K (.agg l)
  | none=>.no 2
def zgr (off:Nat) (sz:Option Nat) (x:AV) (K:AV->Out β):Out β:=asAgg x (λl=>match sz with
   | some n=>K (.agg ((l.drop off).take n))
   | none=>match l[off]? with
    | some v=>K v
    | none=>.no 3) (.no 3)
def zje (off:Nat) (sz:Option Nat) (x:Arg):EP β:=λtm _ K=>zgr off sz (x.ev tm) K
def di (i:Nat) (x:AV) (K:AV->Out β):Out β:=zgu x (λl=>match l[i]? with
   | some v=>K v
   | none=>.no 4) (.no 4)
def zpn (i:Nat) (x:Arg):EP β:=λtm _ K=>di i (x.ev tm) K
def qb6 (op:BinOp) (c:Cls) (x y:Arg):EP β:=λtm _ K=>zpm c op (x.ev tm) (y.ev tm) K
def sNeg (x:AV) (K:AV->Out β):Out β:=asInt x (λk a=>wu (kK k (0-a)) λz=>K (.int k z)) (.no 6)
def qb7 (x:Arg):EP β:=λtm _ K=>sNeg (x.ev tm) K
def sNot (x:AV) (K:AV->Out β):Out β:=asBool x (λb=>K (.bool !b)) (.no 6)
def qb8 (x:Arg):EP β:=λtm _ K=>sNot (x.ev tm) K
def sCom (x:AV) (K:AV->Out β):Out β:=asInt x (λk a=>wu (k.wrap (BitVec.ofInt k.bits (if k.signed then -1 else k.max) ^^^ BitVec.ofInt k.bits a).toNat) λz=>K (.int k z)) (.no 6)
def qb9 (x:Arg):EP β:=λtm _ K=>sCom (x.ev tm) K
def wW (k:IntKind) (x:AV) (K:AV->Out β):Out β:=asInt x (λ_ a=>wu (kK k a) λz=>K (.int k z)) (.no 7)
def zym (k:IntKind) (x:Arg):EP β:=λtm _ K=>wW k (x.ev tm) K
def qca (x:AV) (K:AV->Out β):Out β:=tH x (λs=>K (.str s)) (.no 7)
def zyn (x:Arg):EP β:=λtm _ K=>qca (x.ev tm) K
def zH (x:AV) (h:T Blk) (K:AV->Out β):Out β:=rZ x (λid off=>qb (T.get .no id h) (λ_ n t=>bif Nat.ble (Nat.succ off) n then K (T.get .u (.of off) t) else .no 8) (.no 9)) (λl=>match l with | v::_=>K v | []=>.no 8) (.no 10)
def zas (x:Arg):EP β:=λtm h K=>zH (x.ev tm) h K
def zI (s:Nat) (x:AV) (h:T Blk) (K:AV->Out β):Out β:=rZ x (λid off=>qb (T.get .no id h) (λ_ n t=>bif Nat.ble (off+s) n then K (.agg (yR t off s)) else .no 8) (.no 9)) (λl=>bif Nat.ble s l.length then K (.agg (l.take s)) else .no 8) (.no 10)
def ze0 (s:Nat) (x:Arg):EP β:=λtm h K=>zI s (x.ev tm) h K
def qcb (x:AV) (K:AV->Out β):Out β:=rZ x (λid off=>K (.ptr id off)) (λl=>K (.fp l)) (asFn x (λf p c=>K (.fn f p c)) (λid=>K (.yld id)) (asBm x (λf p c=>K (.bm f p c)) (.no 11)))
def zjf (x:Arg):EP β:=λtm _ K=>qcb (x.ev tm) K
def zM (off:Nat) (x:AV) (K:AV->Out β):Out β:=rZ x (λid o=>dw (o+off) λo=>K (.ptr id o)) (λl=>K (.fp (l.drop off))) (.no 12)
def zt0 (off:Nat) (x:Arg):EP β:=λtm _ K=>zM off (x.ev tm) K
def zN (esz:Nat) (x:AV) (i:AV) (K:AV->Out β):Out β:=asInt i (λ_ j=>ai x (λid off n _ _ =>
  match j with
  | .ofNat j=>bif Nat.ble (Nat.succ j) n then dw (off+j*esz) λo=>K (.ptr id o) else .no 13
  | _=>.no 13) (.no 13) (.no 13) (λ_=>.no 13) (λe n l =>
  match j with
  | .ofNat j=>bif Nat.ble (Nat.succ j) n&&Nat.beq e esz then K (.fp (l.drop (j*esz))) else .no 13
  | _=>.no 13) (.no 13)) (.no 13)
def ze1 (esz:Nat) (x i:Arg):EP β:=λtm _ K=>zN esz (x.ev tm) (i.ev tm) K
def zyo (esz:Nat) (n:Nat) (x:AV) (i:AV) (K:AV->Out β):Out β:=asInt i (λ_ j=>rZ x (λid off =>
  match j with
  | .ofNat j=>bif Nat.ble (Nat.succ j) n then dw (off+j*esz) λo=>K (.ptr id o) else .no 14
  | _=>.no 14) (λl =>
  match j with
  | .ofNat j=>bif Nat.ble (Nat.succ j) n then K (.fp (l.drop (j*esz))) else .no 14
  | _=>.no 14) (.no 14)) (.no 14)
def ze2 (esz n:Nat) (x i:Arg):EP β:=λtm _ K=>zyo esz n (x.ev tm) (i.ev tm) K
def sIdx (esz:Nat) (agg:Bool) (n:Nat) (x:AV) (i:AV) (K:AV->Out β):Out β:=asInt i (λ_ j=>asAgg x (λl =>
  match j with
  | .ofNat j=>bif Nat.ble (Nat.succ j) n then (match agg with
     | true=>K (.agg ((l.drop (j*esz)).take esz))
     | false=>match l[j*esz]? with
      | some v=>K v
      | none=>.no 15) else .no 15
  | _=>.no 15) (.no 15)) (.no 15)
def zpo (esz:Nat) (agg:Bool) (n:Nat) (x i:Arg):EP β:=λtm _ K=>sIdx esz agg n (x.ev tm) (i.ev tm) K
def wU (x:AV) (i:AV) (K:AV->Out β):Out β:=asInt i (λ_ j=>tH x (λs =>
  match j with
  | .ofNat j=>match s[j]? with
   | some b=>dw b.toNat λn=>K (.int .u8 (.ofNat n))
   | none=>.no 16
  | _=>.no 16) (.no 16)) (.no 16)
def zjg (x i:Arg):EP β:=λtm _ K=>wU (x.ev tm) (i.ev tm) K
def zt1 (esz:Nat) (x:Arg) (lo hi mx:Option Arg):EP β:=λtm _ K=>zar esz (x.ev tm) (lo.map (Arg.ev · tm)) (hi.map (Arg.ev · tm)) (mx.map (Arg.ev · tm)) K
def zat (x:Arg) (lo hi:Option Arg):EP β:=λtm _ K=>tH (x.ev tm) (λs =>
  match bnd (hi.map (Arg.ev · tm)) s.length s.length with
   | none=>.no 18
   | some h=>match bnd (lo.map (Arg.ev · tm)) h 0 with
    | none=>.no 18
    | some l=>K (.str ((s.drop l).take (h-l)))) (.no 18)
def sLen (x:AV) (K:AV->Out β):Out β:=ai x (λ_ _ n _ _=>K (.int .i64 (.ofNat n))) (K (.int .i64 (.ofNat 0))) (K (.int .i64 (.ofNat 0))) (λ_=>.no 19) (λ_ n _=>K (.int .i64 (.ofNat n))) (.no 19)
def qcc (x:Arg):EP β:=λtm _ K=>sLen (x.ev tm) K
def uO (x:AV) (K:AV->Out β):Out β:=tH x (λs=>dw s.length λn=>K (.int .i64 (.ofNat n))) (.no 19)
def zyp (x:Arg):EP β:=λtm _ K=>uO (x.ev tm) K
def qcd (x:AV) (h:T Blk) (K:AV->Out β):Out β:=aJ x (λid=>ni (T.get .no id h) (λn _=>dw n λn=>K (.int .i64 (.ofNat n))) (.no 19)) (K (.int .i64 (.ofNat 0))) (.no 19)
def zyq (x:Arg):EP β:=λtm h K=>qcd (x.ev tm) h K
def qce (x:AV) (K:AV->Out β):Out β:=ai x (λ_ _ _ _ _=>.no 20) (K (.int .i64 (.ofNat 0))) (.no 20) (λ_=>.no 20) (λ_ _ _=>.no 20) (.no 20)
def zyr (x:Arg):EP β:=λtm _ K=>qce (x.ev tm) K
def zt2 (esz ln:Nat) (x:AV) (lo hi mx:Option AV) (K:AV->Out β):Out β:=rZ x (λid off=>mM id off ln ln esz lo hi mx K) (λ_=>.no 17) (.no 17)
def zpp (esz ln:Nat) (x:Arg) (lo hi mx:Option Arg):EP β:=λtm _ K=>zt2 esz ln (x.ev tm) (lo.map (Arg.ev · tm)) (hi.map (Arg.ev · tm)) (mx.map (Arg.ev · tm)) K
def zpd (kk:KK) (zero:AV) (ok:Bool) (m:AV) (k:AV) (h:T Blk) (K:AV->Out β):Out β:=aJ m (λid=>ni (T.get .no id h) (λ_ l=>match kQ kk k l with
        | some (some (_,v))=>K (bif ok then .tup [v,.bool true] else v)
        | some none=>K (bif ok then .tup [zero,.bool false] else zero)
        | none=>.no 20) (.no 20)) (bif dX kk k then K (bif ok then .tup [zero,.bool false] else zero) else .no 20) (.no 20)
def zjh (kk:KK) (zero:AV) (ok:Bool) (m k:Arg):EP β:=λtm h K=>zpd kk zero ok (m.ev tm) (k.ev tm) h K
def epFn (f:Nat) (p:Pa) (cap:List Arg):EP β:=λtm _ K=>K (.fn f p (cap.map (Arg.ev · tm)))
def epBm (f:Nat) (p:Pa) (first:List Arg):EP β:=λtm _ K=>K (.bm f p (first.map (Arg.ev · tm)))
def sB2s (x:AV) (h:T Blk) (K:AV->Out β):Out β:=ai x (λid off n _ _=>qb (T.get .no id h) (λ_ m t=>bif Nat.ble (off+n) m then (match b2sA (yR t off n) with
          | some s=>K (.str s)
          | none=>.no 21) else .no 21) (.no 21)) (K (.str [])) (.no 21) (λ_=>.no 21) (λ_ _ _=>.no 21) (.no 21)
def zpq (x:Arg):EP β:=λtm h K=>sB2s (x.ev tm) h K
def zpr (mx:Bool) (x:Arg) (xs:List Arg):EP β:=λtm _ K=>match minA mx (x.ev tm) (xs.map (Arg.ev · tm)) with
  | some v=>K v
  | none=>.no 22
def zi7 (x:AV) (h:T Blk) (K:AV->Out β):Out β:=rZ x (λid off=>bif Nat.beq off 0 then aK (T.get .no id h) (λmid _ seen c=>ni (T.get .no mid h) (λk l=>match seen with
   | i::_=>bif Nat.beq c k then (match l[i]? with
    | some (a,b)=>K (.tup [a,b])
    | none=>.no 54) else .no 54
   | []=>.no 54) (.no 54)) (.no 54) else .no 54) (λ_=>.no 54) (.no 54)
def zt3 (x:Arg):EP β:=λtm h K=>zi7 (x.ev tm) h K
def PO.ev (o:PO):EP β:=PO.rec (motive:=λ_=>EP β) epMv zyl zez zje zpn qb6 qb7 qb8 qb9 zym zyn zas ze0 zjf zt0 ze1 ze2 zpo zjg zt1 zat qcc zyp zyq zyr zpp zjh epFn epBm zpq zpr zt3 o
abbrev Kw (β:Type):=AV->T Blk->Pa->Out β
def newB (op:Bool) (l:List AV) (h:T Blk) (nx:Pa) (K:Pa->T Blk->Pa->Out β):Out β :=
 zex l λn t=>dw n λn=>T.fq .no (.cells op n t) nx h λh'=>K nx h' nx.succ
def jA (op:Bool) (l:List AV) (h:T Blk) (nx:Pa) (K:Pa->T Blk->Pa->Out β):Out β :=
 T.rec (motive:=λ_=>Out β) (newB op l h nx K) (λ_ _ _ _ _=>newB op l h nx K) h
def dR (x:AV) (h:T Blk) (no:Out β) (K:List AV->Nat->Out β):Out β :=
 ai x (λid off ln _ esz=>qb (T.get .no id h) (λ_ m t=>bif Nat.ble (off+ln*esz) m then K (yR t off (ln*esz)) ln else no) no)
  (K [] 0) (K [] 0) (λs=>K (s.map λb=>.int .u8 b.toNat) s.length) (λ_ n l=>K l n) no
def vN (id:Pa) (off ln:Nat) (cap:Option Nat) (esz:Nat) (op:Bool) (m:Nat) (t:T AV) (new:List AV) (n:Nat) (h:T Blk) (nx:Pa) (K:Kw β):Out β :=
 uW new t (off+ln*esz) λt'=>T.fq .no (.cells op m t') id h λh'=>dw (ln+n) λq=>K (.sl id off q cap esz) h' nx
def xQ (off ln:Nat) (esz:Nat) (t:T AV) (new:List AV) (n:Nat) (h:T Blk) (nx:Pa) (K:Kw β):Out β :=
 jA true (yR t off (ln*esz)++new) h nx λid' h' nx'=>dw (ln+n) λq=>K (.sl id' 0 q none esz) h' nx'
def nE (id:Pa) (ln esz:Nat) (m:Nat) (t:T AV) (new:List AV) (n:Nat) (h:T Blk) (nx:Pa) (K:Kw β):Out β :=
 uW new t m λt'=>dw (m+n*esz) λm'=>T.fq .no .no id h λh'=>T.fq .no (.cells true m' t') nx h' λh''=>dw (ln+n) λq=>K (.sl nx 0 q none esz) h'' nx.succ
def appA (esz bytes:Nat) (s x:AV) (h:T Blk) (nx:Pa) (K:Kw β):Out β :=
 dR x h (.no 30) λnew n=>bif Nat.ble (bytes*1000000) 70368744177664&&Nat.beq new.length (n*esz)&&Nat.ble 1 esz&&new.all gy then
  ai s (λid off ln cap e=>bif Nat.beq e esz&&Nat.ble (ln+n) 1000000 then
    qb (T.get .no id h) (λop m t=>bif Nat.ble (off+ln*esz) m then
     (match cap with
     | some c=>bif Nat.ble (ln+n) c then (bif Nat.ble (off+(ln+n)*esz) m then vN id off ln (some c) esz op m t new n h nx K else .no 32) else xQ off ln esz t new n h nx K
     | none=>bif Nat.ble (off+(ln+n)*esz) m then vN id off ln none esz op m t new n h nx K
      else bif op&&Nat.beq (off+ln*esz) m&&Nat.beq off 0 then nE id ln esz m t new n h nx K else .no 33) else .no 34) (.no 35) else .no 36)
   (bif Nat.beq n 0 then K .zb h nx else bif Nat.ble n 1000000 then jA true new h nx λid h' nx'=>K (.sl id 0 n none esz) h' nx' else .no 31)
   (.no 37) (λ_=>.no 37) (λ_ _ _=>.no 37) (.no 37)
  else .no 38
def zt4 (l:List AV) (t:T AV) (k:T AV->Out β):Out β:=List.rec (k t) (λ_ _ _=>.no 88) l
def zps (p:Pa) (_:List Pa) (ih:List AV->T AV->(T AV->Out β)->Out β) (l:List AV) (t:T AV) (k:T AV->Out β):Out β :=
 List.rec (.no 89) (λv vs _=>T.fq .u v p t λt'=>ih vs t' k) l
def kW (ps:List Pa):List AV->T AV->(T AV->Out β)->Out β :=
 List.rec (motive:=λ_=>List AV->T AV->(T AV->Out β)->Out β) zt4 zps ps
structure Calls (β:Type) where
 fn:Nat->Pa->List AV->T Blk->Pa->Kw β->Out β
 yld:Pa->List AV->T Blk->Pa->Kw β->Out β
 pk:List Nat->(Nat->Out β)->Out β
abbrev EW (β:Type):=Calls β->Tm->T Blk->Pa->Kw β->Out β
def qm (x:AV) (h:T Blk) (nx:Pa) (K:AV->T Blk->Pa->Out β):Out β:=match x.cells with
 | some l=>jA false l h nx λid h' nx'=>K (.ptr id 0) h' nx'
 | none=>.no 39
def qcf (x:Arg):EW β:=λ_ tm h nx K=>qm (x.ev tm) h nx K
def zt5 (zero:List AV):EW β:=λ_ _ h nx K=>jA false zero h nx λid h' nx'=>K (.ptr id 0) h' nx'
def zpt (esz ln:Nat) (zero:List AV) (ps:List (Nat×Nat×Arg)):EW β:=λ_ tm h nx K=>match gL (fe ln zero) (j8 ps tm) with
  | some l=>jA false l h nx λid h' nx'=>K (.sl id 0 ln (some ln) esz) h' nx'
  | none=>.no 40
def uG (esz:Nat) (bytes:Nat) (zero:List AV) (ln:AV) (cap:AV) (h:T Blk) (nx:Pa) (K:AV->T Blk->Pa->Out β):Out β:=asInt ln (λ_ l=>asInt cap (λ_ c=>match l,c with
  | .ofNat l,.ofNat c=>bif Nat.ble l c&&Nat.ble c 1000000&&Nat.ble (bytes*c) 281474976710656 then
    jA false (fe c zero) h nx λid h' nx'=>K (.sl id 0 l (some c) esz) h' nx'
   else .no 41
  | _,_=>.no 41) (.no 41)) (.no 41)
def zmz (esz bytes:Nat) (zero:List AV) (ln cap:Arg):EW β:=λ_ tm h nx K=>uG esz bytes zero (ln.ev tm) (cap.ev tm) h nx K
def zt6:EW β:=λ_ _ h nx K=>T.fq .no (.map 0 []) nx h λh'=>K (.map nx) h' nx.succ
def yA (sz:Nat) (a:AV) (x:AV) (h:T Blk) (nx:Pa) (K:AV->T Blk->Pa->Out β):Out β:=rZ a (λid off=>qb (T.get .no id h) (λop n t=>match x.cells with
   | some c=>bif Nat.beq c.length sz&&Nat.ble (off+sz) n then
     uW c t off λt'=>T.fq .no (.cells op n t') id h λh'=>K .u h' nx
    else .no 42
   | none=>.no 42) (.no 43)) (λ_=>.no 44) (.no 44)
def zt7 (sz:Nat) (a x:Arg):EW β:=λ_ tm h nx K=>yA sz (a.ev tm) (x.ev tm) h nx K
def zja (kk:KK) (m:AV) (k:AV) (x:AV) (h:T Blk) (nx:Pa) (K:AV->T Blk->Pa->Out β):Out β:=aJ m (λid=>ni (T.get .no id h) (λn l=>match kQ kk k l with
        | some (some (i,_))=>T.fq .no (.map n (l.modify i λe=>(e.1,x))) id h λh'=>K .u h' nx
        | some none=>dw (n+1) λn=>T.fq .no (.map n (l++[(k,x)])) id h λh'=>K .u h' nx
        | none=>.no 45) (.no 45)) (.no 45) (.no 45)
def zt8 (kk:KK) (m k x:Arg):EW β:=λ_ tm h nx K=>zja kk (m.ev tm) (k.ev tm) (x.ev tm) h nx K
def zt9 (kk:KK) (zero:AV) (m:AV) (k:AV) (h:T Blk) (nx:Pa) (K:AV->T Blk->Pa->Out β):Out β:=aJ m (λid=>ni (T.get .no id h) (λn l=>match kQ kk k l with
        | some (some (i,v))=>dw i λi=>K (.tup [v,.int .i64 (.ofNat i)]) h nx
        | some none=>T.fq .no (.map (n+1) (l++[(k,zero)])) id h λh'=>K (.tup [zero,.int .i64 (.ofNat n)]) h' nx
        | none=>.no 46) (.no 46)) (.no 46) (.no 46)
def zpu (kk:KK) (zero:AV) (m k:Arg):EW β:=λ_ tm h nx K=>zt9 kk zero (m.ev tm) (k.ev tm) h nx K
def zys (m:AV) (s:AV) (x:AV) (h:T Blk) (nx:Pa) (K:AV->T Blk->Pa->Out β):Out β:=aJ m (λid=>asInt s (λ_ i=>ni (T.get .no id h) (λn l=>match i with
   | .ofNat i=>bif Nat.ble (Nat.succ i) n then T.fq .no (.map n (l.modify i λe=>(e.1,x))) id h λh'=>K .u h' nx else .no 47
   | _=>.no 47) (.no 47)) (.no 47)) (.no 47) (.no 47)
def zua (m s x:Arg):EW β:=λ_ tm h nx K=>zys (m.ev tm) (s.ev tm) (x.ev tm) h nx K
def qcg (esz bytes:Nat) (s x:Arg):EW β:=λ_ tm h nx K=>appA esz bytes (s.ev tm) (x.ev tm) h nx K
def zji (id:Pa) (off ln esz:Nat) (m:Nat) (t:T AV) (new:List AV) (n:Nat) (h:T Blk) (nx:Pa) (K:Kw β):Out β :=
 uW new t m λt'=>dw (m+n*esz) λm'=>T.fq .no (.cells true m' t') id h λh'=>dw (ln+n) λq=>K (.sl id off q none esz) h' nx
def zlc (C:Calls β) (id:Pa) (off ln e esz bytes:Nat) (x:AV) (h:T Blk) (nx:Pa) (K:Kw β):Out β :=
 dR x h (.no 30) λnew n=>bif Nat.ble (bytes*1000000) 70368744177664&&Nat.beq new.length (n*esz)&&Nat.ble 1 esz&&new.all gy then
  bif Nat.beq e esz&&Nat.ble (ln+n) 1000000 then
   qb (T.get .no id h) (λop m t=>bif Nat.ble (off+ln*esz) m then
    (bif Nat.ble (off+(ln+n)*esz) m then vN id off ln none esz op m t new n h nx K
     else bif op&&Nat.beq (off+ln*esz) m then C.pk [0,1] λi=>bif Nat.beq i 0 then zji id off ln esz m t new n h nx K else xQ off ln esz t new n h nx K
     else .no 33) else .no 34) (.no 35) else .no 36
  else .no 38
def zc4 (C:Calls β) (esz bytes:Nat) (s x:AV) (h:T Blk) (nx:Pa) (K:Kw β):Out β :=
 ai s (λid off ln cap e=>match cap with
  | some _=>appA esz bytes s x h nx K
  | none=>bif Nat.beq off 0 then appA esz bytes s x h nx K else zlc C id off ln e esz bytes x h nx K)
  (appA esz bytes s x h nx K) (.no 37) (λ_=>.no 37) (λ_ _ _=>.no 37) (.no 37)
def zyt (esz bytes:Nat) (s x:Arg):EW β:=λC tm h nx K=>zc4 C esz bytes (s.ev tm) (x.ev tm) h nx K
def zpv (esz bytes:Nat) (zero:List AV) (s x:AV) (h:T Blk) (nx:Pa) (K:AV->T Blk->Pa->Out β):Out β:=ai s (λ_ _ _ _ _=>.no 39) (asInt x (λ_ n=>match n with
  | .ofNat n=>bif Nat.beq n 0 then .no 39 else bif Nat.ble n 1000000&&Nat.ble (bytes*1000000) 70368744177664&&Nat.ble 1 esz then
    jA true (fe n zero) h nx λid h' nx'=>K (.sl id 0 n none esz) h' nx'
   else .no 39
  | .negSucc _=>.no 39) (.no 39)) (.no 39) (λ_=>.no 39) (λ_ _ _=>.no 39) (.no 39)
def zyu (esz bytes:Nat) (zero:List AV) (s x:Arg):EW β:=λ_ tm h nx K=>zpv esz bytes zero (s.ev tm) (x.ev tm) h nx K
def qch (esz:Nat) (d:AV) (s:AV) (h:T Blk) (nx:Pa) (K:AV->T Blk->Pa->Out β):Out β:=dR s h (.no 48) λnew n=>ai d
  (fun id off ln _ _=>dw (Nat.min n ln) fun q=>qb (T.get .no id h) (fun op m t=>bif Nat.ble (off+q*esz) m&&Nat.beq new.length (n*esz)&&new.all gy then
     uW (new.take (q*esz)) t off λt'=>T.fq .no (.cells op m t') id h λh'=>K (.int .i64 (.ofNat q)) h' nx
    else .no 49) (.no 49)) (K (.int .i64 (.ofNat 0)) h nx) (.no 49) (λ_=>.no 49) (λ_ _ _=>.no 49) (.no 49)
def zjj (esz:Nat) (d s:Arg):EW β:=λ_ tm h nx K=>qch esz (d.ev tm) (s.ev tm) h nx K
def zc3 (C:Calls β) (f:AV) (args:List AV) (h:T Blk) (nx:Pa) (K:AV->T Blk->Pa->Out β):Out β:=asFn f (λf p cap=>C.fn f p (args++cap) h nx K) (λid=>C.yld id args h nx K) (asBm f (λf p b=>C.fn f p (b++args) h nx K) (.no 51))
def zjk (f:Arg) (args:List Arg):EW β:=λC tm h nx K=>zc3 C (f.ev tm) (args.map (Arg.ev · tm)) h nx K
def zi6 (x:AV) (h:T Blk) (nx:Pa) (K:AV->T Blk->Pa->Out β):Out β:=aJ x (λid=>ni (T.get .no id h) (λk _=>T.fq .no (.iter id k [] k) nx h λh'=>K (.ptr nx 0) h' nx.succ) (.no 55)) (.no 55) (.no 55)
def zue (x:Arg):EW β:=λ_ tm h nx K=>zi6 (x.ev tm) h nx K
def u5 (k:Nat) (seen:List Nat):List Nat:=(List.range k).filter λi => !seen.contains i
def zor (C:Calls β) (x:AV) (h:T Blk) (nx:Pa) (K:AV->T Blk->Pa->Out β):Out β:=rZ x (λid off=>bif Nat.beq off 0 then aK (T.get .no id h) (λmid n seen _=>ni (T.get .no mid h) (λk l=>bif Nat.beq k n then (match u5 k seen with
   | []=>K (.tup [.bool false]) h nx
   | i::is=>C.pk (i::is) λi=>match l[i]? with
    | some (a,b)=>T.fq .no (.iter mid n (i::seen) k) id h λh'=>K (.tup [.bool true,a,b]) h' nx
    | none=>.no 56) else .no 56) (.no 56)) (.no 56) else .no 56) (λ_=>.no 56) (.no 56)
def zyv (x:Arg):EW β:=λC tm h nx K=>zor C (x.ev tm) h nx K
def sClr (esz:Nat) (zero:List AV) (s:AV) (h:T Blk) (nx:Pa) (K:AV->T Blk->Pa->Out β):Out β:=ai s
  (fun id off ln _ e=>bif Nat.beq e esz&&Nat.ble 1 ln then qb (T.get .no id h) (fun op m t=>bif Nat.ble (off+ln*esz) m&&Nat.beq zero.length esz&&zero.all gy then
     uW (fe ln zero) t off λt'=>T.fq .no (.cells op m t') id h λh'=>K .u h' nx
    else .no 57) (.no 57) else bif Nat.beq ln 0 then K .u h nx else .no 57) (K .u h nx) (.no 57) (λ_=>.no 57) (λ_ _ _=>.no 57) (.no 57)
def qci (esz:Nat) (zero:List AV) (s:Arg):EW β:=λ_ tm h nx K=>sClr esz zero (s.ev tm) h nx K
def WO.ev (o:WO):EW β:=WO.rec (motive:=λ_=>EW β) qcf zt5 zpt zmz zt6 zt7 zt8 zpu zua qcg zjj zjk zue zyv qci zyt zyu o
def mkB (o:WO) (tm:Tm):Bool:=match o with
 | .box x=>(x.ev tm).cells.isSome
 | .alloc _=>true
 | .qw _ ln zero ps=>(gL (fe ln zero) (j8 ps tm)).isSome
 | .tV _ bytes _ ln cap=>match ln.ev tm,cap.ev tm with
  | .int _ (.ofNat l),.int _ (.ofNat c)=>Nat.ble l c&&Nat.ble c 1000000&&Nat.ble (bytes*c) 281474976710656
  | _,_=>false
 | .eX=>true
 | _=>false
def jT (g:Option (Arg×Bool)) (tm:Tm):Bool:=match g with
 | none=>true
 | some (a,want)=>match a.ev tm with
  | .bool b=>b==want
  | _=>false
def zyw (_:AV) (tm:Tm) (k:Tm->Out β):Out β:=k tm
def zyx (v:AV) (tm:Tm) (k:Tm->Out β):Out β:=Tm.rec (λt s=>k ⟨t,v::s⟩) tm
def zld (p:Pa) (v:AV) (tm:Tm) (k:Tm->Out β):Out β:=Tm.rec (λt s=>T.fq .u v p t λt'=>k ⟨t',s⟩) tm
def sV (d:Dst):AV->Tm->(Tm->Out β)->Out β:=Dst.rec zyw zyx zld d
abbrev Ks (β:Type):=T AV->T Blk->Pa->Out β
abbrev Kr (β:Type):=Tm->T Blk->Pa->Out β
abbrev ER (β:Type):=Calls β->Tm->T Blk->Pa->Kr β->Out β
def erS (op:PO):ER β:=λ_ tm h nx K=>op.ev tm h λv=>Tm.rec (λt s=>K ⟨t,v::s⟩ h nx) tm
def erQ (d:Pa) (op:PO):ER β:=λ_ tm h nx K=>op.ev tm h λv=>zld d v tm λtm'=>K tm' h nx
def gK (b:Bool) (op:(AV->Out β)->Out β) (k:AV->Out β):Out β:=bif b then op k else k .u
def gKW (b:Bool) (op:Kw β->Out β) (h:T Blk) (nx:Pa) (k:Kw β):Out β:=bif b then op k else k .u h nx
def gP (g:Option (Arg×Bool)) (tm:Tm) (op:(AV->Out β)->Out β) (k:AV->Out β):Out β:=Option.rec (motive:=λ_=>Out β) (op k) (λga=>gK (jT (some ga) tm) op k) g
def gW (g:Option (Arg×Bool)) (tm:Tm) (op:Kw β->Out β) (h:T Blk) (nx:Pa) (k:Kw β):Out β:=Option.rec (motive:=λ_=>Out β) (op k) (λga=>gKW (jT (some ga) tm) op h nx k) g
theorem zxa (g:Option (Arg×Bool)) (tm:Tm) (op:(AV->Out β)->Out β) (k:AV->Out β):gP g tm op k=bif jT g tm then op k else k .u:=by cases g <;> rfl
theorem zxb (g:Option (Arg×Bool)) (tm:Tm) (op:Kw β->Out β) (h:T Blk) (nx:Pa) (k:Kw β):gW g tm op h nx k=bif jT g tm then op k else k .u h nx:=by cases g <;> rfl
def erP (d:Dst) (g:Option (Arg×Bool)) (op:PO):ER β:=λ_ tm h nx K=>gP g tm (op.ev tm h) λv=>sV d v tm λtm'=>K tm' h nx
def erW (d:Dst) (g:Option (Arg×Bool)) (op:WO):ER β:=λC tm h nx K=>gW g tm (op.ev C tm h nx) h nx λv h' nx'=>sV d v tm λtm'=>K tm' h' nx'
def RO.ev (o:RO):ER β:=RO.rec (motive:=λ_=>ER β) erS erQ erP erW o
def qcj:ER β:=λ_ tm h nx K=>K tm h nx
def zyy (o:RO) (_:List RO) (ih:ER β):ER β:=λC tm h nx K=>o.ev C tm h nx λtm h nx=>ih C tm h nx K
def zZ (l:List RO):ER β:=List.rec (motive:=λ_=>ER β) qcj zyy l
structure aD where
 op:PO
 tm:Tm
 v:AV
 n:Nat
def paEq:Pa->Pa->Bool
 | .z,.z=>true
 | .l p,.l q=>paEq p q
 | .r p,.r q=>paEq p q
 | _,_=>false
def zle:Option Nat->Option Nat->Bool
 | none,none=>true
 | some a,some b=>Nat.beq a b
 | _,_=>false
mutual
def aX:AV->AV->Bool
 | .bool a,.bool b=>a==b
 | .int k a,.int k' b=>vB k k'&&ieq a b
 | .str a,.str b=>j5 a b
 | .tK,.tK | .zb,.zb | .sM,.sM | .sK,.sK | .esl,.esl=>true
 | .ptr a o,.ptr b p=>paEq a b&&Nat.beq o p
 | .sl a o l c e,.sl a' o' l' c' e'=>paEq a a'&&Nat.beq o o'&&Nat.beq l l'&&zle c c'&&Nat.beq e e'
 | .map a,.map b=>paEq a b
 | .fn f p c,.fn f' p' c'=>Nat.beq f f'&&paEq p p'&&vL c c'
 | .bm f p c,.bm f' p' c'=>Nat.beq f f'&&paEq p p'&&vL c c'
 | .yld a,.yld b=>paEq a b
 | .agg a,.agg b=>vL a b
 | .tup a,.tup b=>vL a b
 | .lst e n a,.lst e' n' b=>Nat.beq e e'&&Nat.beq n n'&&vL a b
 | .fp a,.fp b=>vL a b
 | _,_=>false
def vL:List AV->List AV->Bool
 | [],[]=>true
 | a::l,b::m=>aX a b&&vL l m
 | _,_=>false
end
def wI (h:T Blk):List aD->Out β->Out β
 | [],k=>k
 | p::ps,k=>p.op.ev p.tm h λv=>bif aX v p.v then wI h ps k else .no 90
def oF:List aD->List aD
 | []=>[]
 | p::ps=>bif Nat.ble p.n 1 then oF ps else ⟨p.op,p.tm,p.v,Nat.sub p.n 1⟩::oF ps
def addP (c:Nat) (op:PO) (tm:Tm) (v:AV) (ps:List aD):List aD:=bif Nat.beq c 0 then ps else ⟨op,tm,v,c⟩::ps
def aF (cs:List WO) (tm:Tm) (k:Out β):Out β:=List.rec (motive:=λ_=>Out β) k (λ_ _ _=>bif cs.all (λo=>mkB o tm) then k else .no 91) cs
def evD:List (RO×Nat×List WO)->List aD->ER β
 | [],_=>λ_ tm h nx K=>K tm h nx
 |(.s op,c,cs)::l,ps=>λC tm h nx K=>op.ev tm h λv=>aF cs ⟨tm.v,v::tm.s⟩ (evD l (addP c op tm v ps) C ⟨tm.v,v::tm.s⟩ h nx K)
 |(.q d op,c,cs)::l,ps=>λC tm h nx K=>op.ev tm h λv=>zld d v tm λtm'=>aF cs tm' (evD l (addP c op tm v ps) C tm' h nx K)
 |(.p d g op,c,cs)::l,ps=>λC tm h nx K=>Nat.rec (motive:=λ_=>Out β) (gP g tm (op.ev tm h) λv=>sV d v tm λtm'=>aF cs tm' (evD l ps C tm' h nx K))
   (λc _=>bif jT g tm then op.ev tm h λv=>sV d v tm λtm'=>aF cs tm' (evD l (addP (Nat.succ c) op tm v ps) C tm' h nx K)
    else sV d .u tm λtm'=>aF cs tm' (evD l ps C tm' h nx K)) c
 |(.w d g op,_,cs)::l,ps=>λC tm h nx K=>gW g tm (λk=>op.ev C tm h nx λv h' nx'=>wI h' ps (k v h' nx')) h nx λv h' nx'=>sV d v tm λtm'=>aF cs tm' (evD l (oF ps) C tm' h' nx' K)
structure pq (β:Type) where
 ex:Nat->Ks β
 rt:Ks β
abbrev EI (β:Type):=Calls β->Nat->pq β->Ks β->Ks β
def zyz:EI β:=λ_ _ _ K=>K
def zpw (l:List RO):EI β:=λC _ _ K tm h nx=>zZ l C ⟨tm,[]⟩ h nx λtm h nx=>Tm.rec (λt _=>K t h nx) tm
def zpx (c0:List WO) (l:List (RO×Nat×List WO)):EI β:=λC _ _ K tm h nx=>aF c0 ⟨tm,[]⟩ (evD l [] C ⟨tm,[]⟩ h nx λtm h nx=>Tm.rec (λt _=>K t h nx) tm)
def qck (_ _:IR) (iha ihb:EI β):EI β:=λC n O K=>iha C n O (ihb C n O K)
def zy0 (c:Arg) (_ _:IR) (iha ihb:EI β):EI β:=λC n O K tm h nx=>asBool (c.ev ⟨tm,[]⟩) (λt=>Bool.rec (ihb C n O K tm h nx) (iha C n O K tm h nx) t) (.no 60)
def zuf (id:Nat) (_:IR) (ih:EI β):EI β:=λC n O K=>ih C n { O with ex:=λi=>bif Nat.beq i id then K else O.ex i } K
def zy1 (_:IR) (ih:EI β):EI β:=λC n O _=>Nat.rec (motive:=λ_=>Ks β) (λ_ _ _=>.no 61) (λ_ ihn=>ih C n O ihn) n
def qcl (O:pq β) (K:Ks β) (st:LSt) (j:Jump):Ks β:=match st with
 | .busy=>λ_ _ _=>.no 62
 | _=>match j with
  | .none=>K
  | .ret=>O.rt
  | .exit id=>O.ex id
def eiRf (f:Arg) (ps:List Pa) (a b:IR) (_ _:EI β):EI β:=λC _ O K tm h nx =>
 T.fq .no (.loop .ready .none tm ps a b) nx h λh' =>
  asFn (f.ev ⟨tm,[]⟩) (λf p cap=>C.fn f p (AV.yld nx::cap) h' nx.succ λ_ h nx'=>zao (T.get .no nx h) (λst j _ _ _ _=>T.fq .no .no nx h λh=>qcl O K st j tm h nx') (.no 63)) (λ_=>.no 64) (.no 64)
def zy2 (id:Nat):EI β:=λ_ _ O _=>O.ex id
def qcm:EI β:=λ_ _ O _=>O.rt
def qcn (n:Nat):EI β:=λ_ _ _ _ _ _ _=>.no (100+n)
def IR.run (c:IR):EI β:=IR.rec (motive:=λ_=>EI β) zyz zpw zpx qck zy0 zuf zy1 eiRf zy2 qcm qcn c
def resA (l:List RV) (tm:T AV) (h:T Blk) (K:List AV->Out β):Out β :=
 List.rec (motive:=λ_=>(List AV->Out β)->Out β) (λK=>K [])
  (fun r _ ih K=>match r with
   | .t p=>ih λl=>K (T.get .u p tm::l)
   | .cell p sz=>match sz with
    | some s=>ze0 s (.t p) ⟨tm,[]⟩ h λv=>ih λl=>K (v::l)
    | none=>zas (.t p) ⟨tm,[]⟩ h λv=>ih λl=>K (v::l)) l K
def resV:List AV->AV
 | [v]=>v
 | l=>.tup l
def zO (fns:T (Option Fn)) (fuel:Nat) (C:Calls β) (p:Pa) (args:List AV) (h:T Blk) (nx:Pa) (K:Kw β):Out β :=
 Option.rec (motive:=λ_=>Out β) (.no 83) (λF=>kW F.params args F.init λtm =>
  F.body.run C fuel ⟨λ_ _ _ _=>.no 82,λtm h nx=>resA F.res tm h λl=>K (resV l) h nx⟩ (λtm h nx=>resA F.res tm h λl=>K (resV l) h nx) tm h nx) (T.get none p fns)
def dQ (id:Pa) (K:Kw β) (j:Jump) (v:Bool):Ks β:=λ_ h nx =>
 zao (T.get .no id h) (λ_ _ tm ps a b=>T.fq .no (.loop (bif v then .ready else .done) j tm ps a b) id h λh'=>K (.bool v) h' nx) (.no 84)
def ze3 (fuel:Nat) (C:Calls β) (id:Pa) (args:List AV) (h:T Blk) (nx:Pa) (K:Kw β):Out β :=
 zao (T.get .no id h) (λ_ _ tm ps a b=>kW ps args tm λtm' =>
  a.run C fuel ⟨λ_ _ _ _=>.no 85,λ_ _ _=>.no 85⟩ (λtm'' h nx =>
   zao (T.get .no id h) (λst j tm ps x y=>match st with
    | .ready=>T.fq .no (.loop .busy j tm ps x y) id h λh' =>
      b.run C fuel ⟨λi=>dQ id K (.exit i) false,dQ id K .ret false⟩ (dQ id K .none true) tm'' h' nx
    | _=>.no 86) (.no 86)) tm' h nx) (.no 87)
end
end Go.Ev
namespace Go.Ev
open Go
def eY:Nat->Value->Option AV
 | 0,_=>none
 | d+1,v=>match v with
  | .bool b=>some (.bool b)
  | .int k n=>some (.int k n)
  | .string s=>some (.str s.data.toList)
  | .pointer none=>some .tK
  | .slice none 0 0=>some .zb
  | .map none=>some .sM
  | .nilFunc=>some .sK
  | .agg cs=>match cs.toList.mapM (eY d) with
   | some l=>bif l.all gy then some (.agg l) else none
   | none=>none
  | .tuple cs=>(cs.toList.mapM (eY d)).map .tup
  | _=>none
section
variable (P:Program)
def pG (t:TypeId):Option (Option Nat) :=
 match P.underlying t with
 | some (.struct _) | some (.array _ _)=>(P.info? t).map λi=>some i.size
 | some _=>some none
 | none=>none
def rA (t:TypeId):Option Nat:=(P.info? t).map (·.size)
def gR (t:TypeId):Option AV:=((P.info? t).bind (·.zero)).bind (eY 8)
def isInt (t:TypeId):Bool:=match P.underlying t with | some (.int _)=>true | _=>false
variable (loc st:List Nat)
def tu (t:Nat):Option Pa:=(loc.findIdx? (Nat.beq t)).map .of
def dmy:Nat:=4294967295
def zx:Operand->Option Arg
 | .tmp t=>bif Nat.beq t dmy then none else match tu loc t with
  | some p=>some (.t p)
  | none=>(st.findIdx? (Nat.beq t)).map .s
 | .const v=>(eY 8 v).map .c
 | .func f=>some (.c (.fn f (.of f) []))
 | .global g=>match layG g with
  | []=>none
  | _::_=>some (.c (.fp (layL g)))
def tL:Option Operand->Option (Option Arg)
 | none=>some none
 | some x=>(zx loc st x).map some
def xF (l:Array Operand):Option (List Arg):=l.toList.mapM (zx loc st)
def gX (place:Nat->Option (Nat×Nat)) (l:List (Nat×Operand)):Option (List (Nat×Nat×Arg)) :=
 l.mapM λ(i,x)=>match place i,zx loc st x with
  | some (o,s),some a=>some (o,s,a)
  | _,_=>none
def qL (fs:Array Field) (i:Nat):Option (Nat×Nat):=match fs[i]? with
 | some f=>(rA P f.type).map λs=>(f.offset,s)
 | none=>none
def wM (t:TypeId):Option KK:=match P.underlying t with
 | some (.int _)=>some .int
 | some .string=>some .str
 | some .bool=>some .bool
 | some (.array n e)=>match isInt P e,rA P e with
  | true,some 1=>some (.agg n)
  | _,_=>none
 | _=>none
def poA (o:Op):Option PO :=
 match o with
 | .move x | .assign x=>(zx loc st x).map .mv
 | .pick c a b=>match zx loc st c,zx loc st a,zx loc st b with
  | some c,some a,some b=>some (.pick c a b)
  | _,_,_=>none
 | .build t ps=>match gR P t,P.underlying t with
  | some z,some (.struct fs)=>match bif fs.toList.all (λf=>(P.info? f.type).isSome) then z.cells else none,gX loc st (qL P fs) ps.toList with
   | some z,some ps=>some (.build z ps)
   | _,_=>none
  | some z,some (.array _ e)=>match rA P e with
   | some s=>match z.cells,gX loc st (λi=>some (i*s,s)) ps.toList with
    | some z,some ps=>some (.build z ps)
    | _,_=>none
   | none=>none
  | _,_=>none
 | .field t x i=>match P.underlying t,zx loc st x with
  | some (.struct fs),some x=>match fs[i]? with
   | some f=>(pG P f.type).map λs=>.part f.offset s x
   | none=>none
  | _,_=>none
 | .extract x i=>(zx loc st x).map (.ext i)
 | .binOp op t x y _=>match zx loc st x,zx loc st y with
  | some x,some y=>match P.underlying t with
   | some (.int _)=>some (.bin op .int x y)
   | some .string=>some (.bin op .str x y)
   | some .bool=>some (.bin op .bool x y)
   | some (.slice _)=>some (.bin op (.nil .sl) x y)
   | some (.map _ _)=>some (.bin op (.nil .mp) x y)
   | some (.func _ _ _)=>some (.bin op (.nil .fn) x y)
   | some (.pointer _)=>some (.bin op (.nil .pt) x y)
   | _=>none
  | _,_=>none
 | .unOp op _ x=>match op,zx loc st x with
  | .neg,some x=>some (.neg x)
  | .not,some x=>some (.not x)
  | _,_=>none
 | .convert s d x=>match zx loc st x with
  | some x=>match P.underlying s,P.underlying d with
   | some (.int _),some (.int k)=>some (.conv k x)
   | some (.slice e),some .string=>match P.underlying e with
    | some (.int .u8)=>some (.b2s x)
    | _=>none
   | _,_=>none
  | none=>none
 | .load t x=>match zx loc st x,pG P t with
  | some x,some none=>some (.load x)
  | some x,some (some s)=>some (.zi s x)
  | _,_=>none
 | .entry x=>(zx loc st x).map .entry
 | .makeFunc (.func f) first cap=>match first.size,xF loc st cap with
  | 0,some c=>some (.fn f (.of f) c)
  | _+1,some []=>(xF loc st first).map (.bm f (.of f))
  | _,_=>none
 | .slice t x lo hi mx=>match P.underlying t,zx loc st x,tL loc st lo,tL loc st hi,tL loc st mx with
  | some .string,some x,some lo,some hi,some none=>some (.zam x lo hi)
  | some (.slice e),some x,some lo,some hi,some mx=>(rA P e).map λs=>.slice s x lo hi mx
  | some (.array n e),some x,some lo,some hi,some mx=>(rA P e).map λs=>.aslice s n x lo hi mx
  | _,_,_,_,_=>none
 | .fieldAddr t x i=>match P.underlying t,zx loc st x with
  | some (.struct fs),some x=>match fs[i]? with
   | some f=>match rA P f.type with
    | some (_+1)=>some (.zal f.offset x)
    | _=>none
   | none=>none
  | _,_=>none
 | .indexAddr t x i=>match zx loc st x,zx loc st i with
  | some x,some i=>match P.underlying t with
   | some (.array n e)=>(rA P e).map λs=>.zk9 s n x i
   | some (.slice e)=>(rA P e).map λs=>.aB s x i
   | _=>none
  | _,_=>none
 | .index t x i=>match zx loc st x,zx loc st i with
  | some x,some i=>match P.underlying t with
   | some .string=>some (.sidx x i)
   | _=>none
  | _,_=>none
 | .lookup t m k ok=>match zx loc st m,zx loc st k with
  | some m,some k=>match P.underlying t with
   | some (.map kt e)=>match wM P kt,gR P e with
    | some q,some z=>some (.look q z ok m k)
    | _,_=>none
   | _=>none
  | _,_=>none
 | .call { callee:=.builtin b,args,argTypes }=>match b,args.toList with
  | .len,[x]=>match zx loc st x,(argTypes[0]?).bind P.underlying with
   | some x,some .string=>some (.slen x)
   | some x,some (.slice _)=>some (.len x)
   | some x,some (.map _ _)=>some (.mlen x)
   | _,some (.array n _)=>some (.mv (.c (.int .i64 n)))
   | _,_=>none
  | .cap,[x]=>match zx loc st x,(argTypes[0]?).bind P.underlying with
   | some x,some (.slice _)=>some (.capz x)
   | _,_=>none
  | .min,x::xs=>match zx loc st x,xs.mapM (zx loc st) with
   | some x,some xs=>some (.zan false x xs)
   | _,_=>none
  | .max,x::xs=>match zx loc st x,xs.mapM (zx loc st) with
   | some x,some xs=>some (.zan true x xs)
   | _,_=>none
  | _,_=>none
 | _=>none
def woA (o:Op):Option WO :=
 match o with
 | .alloc t=>match gR P t with
  | some z=>z.cells.map .alloc
  | none=>none
 | .box _ x=>(zx loc st x).map .box
 | .buildSlice t n ps=>match P.underlying t with
  | some (.slice e)=>match rA P e,gR P e with
   | some s,some z=>match Nat.ble (n*s) 16777216,gX loc st (λi=>some (i*s,s)) ps.toList,z.cells with
    | true,some ps,some z=>bif Nat.beq z.length s then some (.qw s n z ps) else none
    | _,_,_=>none
   | _,_=>none
  | _=>none
 | .store t a x=>match rA P t,zx loc st a,zx loc st x with
  | some s,some a,some x=>some (.store s a x)
  | _,_,_=>none
 | .makeMap _ none=>some .eX
 | .makeSlice t l c=>match P.underlying t with
  | some (.slice e)=>match P.info? e,gR P e,zx loc st l,zx loc st c with
   | some i,some z,some l,some c=>match z.cells with
    | some z=>bif Nat.beq z.length i.size then some (.tV i.size i.bytes z l c) else none
    | none=>none
   | _,_,_,_=>none
  | _=>none
 | .mapUpdate t m k x | .insert t m k x=>match zx loc st m,zx loc st k,zx loc st x with
  | some m,some k,some x=>match P.underlying t with
   | some (.map kt _)=>match wM P kt with
    | some q=>some (.zpi q m k x)
    | none=>none
   | _=>none
  | _,_,_=>none
 | .call { callee:=.builtin b,args,argTypes }=>match b,args.toList with
  | .append,[s,x]=>match zx loc st s,zx loc st x,(argTypes[0]?).bind P.underlying,(argTypes[1]?).bind P.underlying with
   | some s,some x,some (.slice e),some (.slice _) | some s,some x,some (.slice e),some .string=>match P.info? e,(gR P e).bind AV.cells with
    | some i,some z=>bif Nat.beq z.length i.size then some (bif Nat.beq i.bytes 32 then .appq i.size i.bytes s x else .app i.size i.bytes s x) else none
    | _,_=>none
   | some s,some x,some (.slice e),some (.int _)=>match P.info? e,(gR P e).bind AV.cells with
    | some i,some z=>bif Nat.beq z.length i.size then some (.appm i.size i.bytes z s x) else none
    | _,_=>none
   | _,_,_,_=>none
  | .copy,[d,s]=>match zx loc st d,zx loc st s,(argTypes[0]?).bind P.underlying with
   | some d,some s,some (.slice e)=>(rA P e).map λz=>.copy z d s
   | _,_,_=>none
  | .clear,[s]=>match zx loc st s,(argTypes[0]?).bind P.underlying with
   | some s,some (.slice e)=>match rA P e,(gR P e).bind AV.cells with
    | some n,some z=>some (.clr n z s)
    | _,_=>none
   | _,_=>none
  | _,_=>none
 | .call { callee:=.value f,args,.. }=>match zx loc st f,xF loc st args with
  | some f,some args=>some (.call f args)
  | _,_=>none
 | .range t x=>match P.underlying t with
  | some (.map _ _)=>(zx loc st x).map .range
  | _=>none
 | .next x s=>match s with
  | false=>(zx loc st x).map .next
  | true=>none
 | _=>none
def qP (ops:Array Oper) (o:Oper):Option (Option (Arg×Bool)):=match o.guard with
  | none=>some none
  | some (j,w)=>match (ops[j]?).bind (·.dst) with
   | some t=>(zx loc st (.tmp t)).map λa=>some (a,w)
   | none=>none
variable (N:Nat)
def aG:Option Nat->Option (Dst×List Nat)
 | none=>some (.none,st)
 | some t=>match Nat.ble (t+1) N,tu loc t with
  | true,some p=>some (.loc p,st)
  | true,none=>bif st.any (Nat.beq t) then none else some (.push,t::st)
  | false,_=>none
def roA (ops:Array Oper) (o:Oper):Option (RO×List Nat) :=
 match qP loc st ops o,aG loc st N o.dst with
 | some g,some (d,st')=>match poA P loc st o.op with
  | some p=>match d,g with
   | .push,none=>some (.s p,st')
   | .loc d,none=>some (.q d p,st')
   | d,g=>some (.p d g p,st')
  | none=>match woA P loc st o.op with
   | some p=>some (.w d g p,st')
   | none=>none
 | _,_=>none
def rosA (ops:Array Oper):List Oper->List Nat->Option (List RO)
 | [],_=>some []
 | o::l,st=>match roA P loc st N ops o with
  | some (r,st')=>match rosA ops l st' with
   | some rs=>some (r::rs)
   | none=>none
  | none=>none
def xN (o:Oper):List Nat:=(o.after.toList.filter (Region.binds .any)).map (·.on)
def nF (acc:List Nat) (o:Oper):Nat:=(xN o).foldl (λm j=>m ||| (2 ^ j ||| acc.getD j 0)) 0
def nW:List Oper->List Nat->List Nat
 | [],acc=>acc
 | o::l,acc=>nW l (acc++[nF acc o])
def uZ:List Oper->Nat->Bool
 | [],_=>true
 | o::l,j=>(xN o).all (λe=>Nat.ble (e+1) j)&&uZ l (j+1)
def zc7:Op->Bool
 | .alloc _ | .box .. | .buildSlice .. | .store .. | .makeMap .. | .makeSlice .. | .mapUpdate .. | .insert .. | .mapEntry .. | .entryStore .. | .range .. | .next .. => true
 | .call { callee:=.builtin b,.. }=>match b with
  | .append | .copy | .clear=>true
  | _=>false
 | .call _=>true
 | _=>false
def isMk:Op->Bool
 | .alloc _ | .box .. | .buildSlice .. | .makeMap .. | .makeSlice .. => true
 | _=>false
def gJ (ops:Array Oper) (j:Nat):Bool:=match ops[j]? with
 | some o=>zc7 o.op
 | none=>false
def cS (ops:Array Oper) (o:Oper):List Nat:=o.dst.toList++o.looksAt ops
def zau (ops:Array Oper) (x y:Oper):Bool:=x.dst.any (λt=>(cS ops y).any (Nat.beq t))||y.dst.any (λt=>(cS ops x).any (Nat.beq t))
def dB (ops:Array Oper) (an:List Nat):Bool :=
 (List.range ops.size).all λj=>match ops[j]? with
  | some y=>(List.range j).all λi=>match ops[i]? with
   | some x=>bif zau ops x y then (an.getD j 0).testBit i else true
   | none=>false
  | none=>false
def ze4 (ops:Array Oper) (i:Nat):Bool:=match ops[i]? with
 | some o=>isMk o.op
 | none=>false
def oW (ops:Array Oper) (an:List Nat) (j:Nat):Bool:=match ops[j]? with
 | some o=>isMk o.op&&o.guard.isNone&&(List.range ops.size).all (λi => !((an.getD j 0).testBit i&&ze4 ops i)) &&
   (List.range ops.size).any (λi=>gJ ops i && !Nat.beq i j && !(an.getD j 0).testBit i && !(an.getD i 0).testBit j)
 | none=>false
def wlA (an fr:List Nat):List Nat->Nat->List Nat
 | [],pl=>fr.filter λf => !pl.testBit f
 | w::ws,pl=>(fr.filter λf => !pl.testBit f&&(an.getD w 0).testBit f)++w::wlA an fr ws (pl ||| an.getD w 0)
def posA (an:List Nat) (j:Nat):List Nat->Nat->Nat->Nat->Nat×Nat
 | [],_,k,d=>(k,d)
 | w::ws,i,k,d=>posA an j ws (i+1) (bif (an.getD j 0).testBit w then i+1 else k) (bif (an.getD w 0).testBit j then d else i+1)
def qco (ops:Array Oper) (an wl:List Nat):List (Nat×Nat) :=
 (fun rs=>(List.range (wl.length+1)).flatMap fun k=>(rs.filter fun (r:Nat×Nat×Nat)=>Nat.beq r.2.1 k).map (fun r=>(r.1,r.2.2-r.2.1))++match wl[k]? with
   | some w=>[(w,0)]
   | none=>[])
  (((List.range ops.size).filter λj => !gJ ops j).map λj=>(j,posA an j wl 0 0 0))
def permA (ops:Array Oper) (an fr:List Nat):List (Nat×Nat):=qco ops an (wlA an fr ((List.range ops.size).filter λj=>gJ ops j && !fr.any (Nat.beq j)) 0)
def u9 (ops:Array Oper) (an fr:List Nat):List (Nat×Nat)->Nat->Nat->Nat->Nat->Bool
 | [],_,_,_,_=>true
 |(y,c)::l,done,uw,qc,fp=>Nat.beq ((an.getD y 0) &&& done) (an.getD y 0) && !done.testBit y&&Nat.ble (y+1) ops.size &&
  bif gJ ops y then (bif fr.any (Nat.beq y) then u9 ops an fr l (done ||| 2 ^ y) (uw ||| 2 ^ y) qc (fp ||| 2 ^ y)
   else Nat.beq ((an.getD y 0) &&& qc) qc&&Nat.beq ((an.getD y 0) &&& fp) fp&&u9 ops an fr l (done ||| 2 ^ y) (uw ||| 2 ^ y) (qc ||| 2 ^ y) 0)
  else Nat.beq ((an.getD y 0) &&& uw) uw&&((l.filter λz=>gJ ops z.1).drop c).all (λz=>(an.getD z.1 0).testBit y)&&u9 ops an fr l (done ||| 2 ^ y) uw qc fp
def isW:RO->Bool
 | .w .. => true
 | _=>false
def chkO (ops:Array Oper) (st:List Nat) (f:Nat):Option WO:=match ops[f]? with
 | some o=>woA P loc st o.op
 | none=>none
def chkA (ops:Array Oper) (st:List Nat) (fs:List Nat):Option (List WO):=fs.mapM (chkO P loc ops st)
def nowA (an fr:List Nat) (done done':Nat):List Nat:=fr.filter λf=>Nat.beq ((an.getD f 0) &&& done') (an.getD f 0) && !Nat.beq ((an.getD f 0) &&& done) (an.getD f 0)
def rosP (ops:Array Oper) (an fr:List Nat):List (Nat×Nat)->List Nat->Nat->Option (List (RO×Nat×List WO))
 | [],_,_=>some []
 |(j,c)::l,st,done=>match ops[j]? with
  | some o=>match roA P loc st N ops o with
   | some (r,st')=>bif isW r==zc7 o.op then match chkA P loc ops st' (nowA an fr done (done ||| 2 ^ j)),rosP ops an fr l st' (done ||| 2 ^ j) with
     | some cs,some rs=>some ((r,c,cs)::rs)
     | _,_=>none
    else none
   | none=>none
  | none=>none
def zxc (ops:Array Oper) (an fr:List Nat):Option (List WO×List (RO×Nat×List WO)) :=
 bif uZ ops.toList 0&&dB ops an&&fr.all (oW ops an)&&(List.range ops.size).all (λi=>(permA ops an fr).any λz=>Nat.beq z.1 i)&&u9 ops an fr (permA ops an fr) 0 0 0 0
 then match chkA P loc ops [] (fr.filter λf=>Nat.beq (an.getD f 0) 0),rosP P loc N ops an fr (permA ops an fr) [] 0 with
  | some cs,some rs=>some (cs,rs)
  | _,_=>none
 else none
def zpy (ops:Array Oper):Option (List WO×List (RO×Nat×List WO)) :=
 zxc P loc N ops (nW ops.toList []) ((List.range ops.size).filter (oW ops (nW ops.toList [])))
def irA:Code->IR
 | .skip=>.skip
 | .region id ops d=>match d with
  | true=>match zpy P loc N ops with
   | some (cs,l)=>.wm cs l
   | none=>.bad id
  | false=>match rosA P loc N ops ops.toList [] with
   | some l=>.reg l
   | none=>.bad id
 | .seq a b=>.seq (irA a) (irA b)
 | .cond c a b=>match zx loc [] c with
  | some c=>.cond c (irA a) (irA b)
  | none=>.bad 900
 | .block id b=>.block id (irA b)
 | .loop b=>.loop (irA b)
 | .rangeFunc f ps a b=>match zx loc [] f,ps.toList.mapM (tu loc) with
  | some f,some ps=>.rf f ps (irA a) (irA b)
  | _,_=>.bad 901
 | .exit id=>.exit id
 | .scope b=>irA b
 | .label _=>.skip
 | .goto _=>.bad 902
 | .ret=>.ret
 | .refuse _=>.bad 903
def rvA:ResultVar->Option RV
 | .tmp t=>bif Nat.beq t dmy then none else (tu loc t).map .t
 | .cell a t=>match (bif Nat.beq a dmy then none else tu loc a),pG P t with
  | some p,some s=>some (.cell p s)
  | _,_=>none
end
section
variable (P:Program)
def qD (loc:List Nat):Nat->Option (List Pa)
 | 0=>some []
 | n+1=>match qD loc n,tu loc n with
  | some l,some p=>some (l++[p])
  | _,_=>none
def zlf (n:Nat):T AV:=Nat.rec .e (λk t=>T.fq .u .u (.of k) t λt=>t) n
def fnA (f:Func) (loc:List Nat):Option Fn :=
 match loc.all (λt=>Nat.ble (t+1) f.ntmps)&&Nat.ble (f.params.size+f.nfree) f.ntmps,f.body,f.results.toList.mapM (rvA P loc),qD loc (f.params.size+f.nfree) with
 | true,some b,some r,some ps=>some { params:=ps,res:=r,body:=irA P loc f.ntmps b,init:=zlf loc.length }
 | _,_,_,_=>none
end
end Go.Ev
