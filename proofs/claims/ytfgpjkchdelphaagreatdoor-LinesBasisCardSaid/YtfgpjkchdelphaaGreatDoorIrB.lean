import Derived.Test.YtfgpjkchdelphaaGreatDoorIrA
import Derived.Test.YtfgpjkchdelphaaGreatDoorEvC
import Derived.Test.YtfgpjkchdelphaaGreatDoorProg
import Derived.KernelRfl
set_option linter.unusedSimpArgs false
set_option linter.unusedVariables false
namespace Go.Ev
open Go Go.Proofs
set_option maxRecDepth 100000
noncomputable section

abbrev vz.fr:=fr5
def vz.b3:IR:=dI [] 3173593980501322660261926977080340170172700652742902064708360971555405394572056409203131353111891229
def vz.b2:IR:=(.loop vz.b3)
def vz.g1 (X2:IR):IR:=(.block 0 X2)
def vz.b1:IR:=vz.g1 vz.b2
def vz.b8:IR:=dI [] 416919
def vz.b0:IR:=dI [vz.b1,vz.b8] 56842562395287
def vz.res:List RV:=[.t (.of 1)]
def vz:Fn:={ params:=[(.of 0)],res:=vz.res,body:=vz.b0,init:=in5 }
theorem vz.ok:fnA Tryz.prog Tryz.f102 [0,2,3,7,21]=some vz:=by kernel_rfl
abbrev kz.fr:=fr4
def kz.t0:IR:=.reg [iQo 1 (.mv aC0)]
def kz.t1:IR:=.reg [iQo 2 (.mv aC0)]
def kz.t2:IR:=.reg (dA [] 731813978114385884)
def kz.t5:IR:=.reg (dA [] 3042865)
def kz.t7:IR:=.seq (.seq kz.t2 (.cond aT3 .skip (.exit 0))) (.block 1 kz.t5)
def kz.t8:IR:=.loop kz.t7
def kz.t10:IR:=.reg (dA [] 18714)
def kz.t14:IR:=.seq kz.t0 (.seq kz.t1 (.seq (.block 0 kz.t8) (.seq kz.t10 .ret)))
def kz.b0:IR:=kz.t14
def kz.res:List RV:=[.t (.of 1)]
def kz:Fn:={ params:=[(.of 0)],res:=kz.res,body:=kz.b0,init:=in4 }
theorem kz.ok:fnA Tryz.prog Tryz.f103 [0,2,3,8]=some kz:=by kernel_rfl
abbrev jk.fr:=fr9
def jk.t0:IR:=.reg [iQo 2 (.mv (.c .zb))]
def jk.t1:IR:=.reg (dA [] 13234331121)
def jk.t2:IR:=.reg (dA [] 1633944489697)
def jk.t3:IR:=.reg (dA [] 88469277)
def jk.t5:IR:=.reg (dA [] 2277891881)
def jk.t6:IR:=.reg (dA [] 115187064124391013508316)
def jk.t9:IR:=.reg (dA [] 59098478)
def jk.t12:IR:=.seq jk.t3 (.seq (.cond aT8 .skip (.exit 0)) (.seq (.block 1 (.seq jk.t5 jk.t6)) jk.t9))
def jk.t13:IR:=.loop jk.t12
def jk.t16:IR:=.reg (dA [] 154)
def jk.t20:IR:=.seq jk.t0 (.seq jk.t1 (.seq (.seq jk.t2 (.block 0 jk.t13)) (.seq jk.t16 .ret)))
def jk.b0:IR:=jk.t20
def jk.res:List RV:=[.t (.of 2)]
def jk:Fn:={ params:=[(.of 0),(.of 1)],res:=jk.res,body:=jk.b0,init:=in9 }
theorem jk.ok:fnA Tryz.prog Tryz.f104 [0,1,4,5,7,10,11,12,13]=some jk:=by kernel_rfl
abbrev jl.fr:=fr7
def jl.t0:IR:=.reg [iQo 1 (.mv (.c .zb))]
def jl.t1:IR:=.reg (dA [] 645931066865)
def jl.t2:IR:=.reg (dA [] 1535436337)
def jl.t3:IR:=.reg (dA [] 3929373)
def jl.t5:IR:=.reg (dA [] 13178)
def jl.t6:IR:=.reg (dA [] 57593532062147219712220)
def jl.t9:IR:=.reg (dA [] 29751150)
def jl.t12:IR:=.seq jl.t3 (.seq (.cond aT6 .skip (.exit 0)) (.seq (.block 1 (.seq jl.t5 jl.t6)) jl.t9))
def jl.t13:IR:=.loop jl.t12
def jl.t16:IR:=.reg (dA [] 18714)
def jl.t20:IR:=.seq jl.t0 (.seq jl.t1 (.seq (.seq jl.t2 (.block 0 jl.t13)) (.seq jl.t16 .ret)))
def jl.b0:IR:=jl.t20
def jl.res:List RV:=[.t (.of 1)]
def jl:Fn:={ params:=[(.of 0)],res:=jl.res,body:=jl.b0,init:=in7 }
theorem jl.ok:fnA Tryz.prog Tryz.f105 [0,2,3,4,8,9,10]=some jl:=by kernel_rfl
abbrev jv.fr:=fr11
def jv.t0:IR:=.reg (dA [] 257437)
def jv.t1:IR:=.reg (dA [] 3153240941217)
def jv.t2:IR:=.reg (dA [] 50198045)
def jv.t4:IR:=.reg (dA [] 1065750348252276771609214676)
def jv.t5:IR:=.reg (dA [] 102229107359576425)
def jv.t6:IR:=dI [] 667589308212185445515587964715288996931088383344642800853130069661754
def jv.t11:IR:=.reg (dA [] 126614894)
def jv.t14:IR:=.seq jv.t2 (.seq (.cond aT9 .skip (.exit 0)) (.seq (.block 1 (.seq jv.t4 (.seq jv.t5 (.cond aT10 jv.t6 .skip)))) jv.t11))
def jv.t15:IR:=.loop jv.t14
def jv.t18:IR:=.seq jv.t0 (.seq jv.t1 (.block 0 jv.t15))
def jv.b0:IR:=jv.t18
def jv.res:List RV:=[]
def jv:Fn:={ params:=[(.of 0),(.of 1),(.of 2)],res:=jv.res,body:=jv.b0,init:=in11 }
theorem jv.ok:fnA Tryz.prog Tryz.f106 [0,1,2,4,6,7,8,9,10,11,17]=some jv:=by kernel_rfl
abbrev nU.fr:=fr3
def nU.t0:IR:=.reg (dA [] 2657483470)
def nU.t1:IR:=dI [] 34940571552342614034527377864850545761496122
def nU.t3:IR:=.seq nU.t0 (.seq nU.t1 .ret)
def nU.b0:IR:=nU.t3
def nU.res:List RV:=[.cell (.of 2) (some 4)]
def nU:Fn:={ params:=[(.of 0)],res:=nU.res,body:=nU.b0,init:=in3 }
theorem nU.ok:fnA Tryz.prog Tryz.f107 [0,1,2]=some nU:=by kernel_rfl
abbrev gy.fr:=fr8
def gy.t0:IR:=.reg [iQo 2 (.mv aC0)]
def gy.t1:IR:=.reg (dA [] 1535436273)
def gy.t2:IR:=.reg (dA [] 3929373)
def gy.t4:IR:=.reg (dA [] 13178)
def gy.t5:IR:=.reg (dA [] 6192097130547195929556)
def gy.t12:IR:=.reg (dA [] 29751150)
def gy.t15:IR:=.seq gy.t2 (.seq (.cond aT6 .skip (.exit 0)) (.seq (.block 1 (.seq gy.t4 (.seq gy.t5 (.cond aT7 (.seq (.reg (dA [] 154)) .ret) .skip)))) gy.t12))
def gy.t16:IR:=.loop gy.t15
def gy.t19:IR:=.reg [iQo 2 (.mv (.c (I (-1))))]
def gy.t22:IR:=.seq gy.t0 (.seq (.seq gy.t1 (.block 0 gy.t16)) (.seq gy.t19 .ret))
def gy.b0:IR:=gy.t22
def gy.res:List RV:=[.t (.of 2)]
def gy:Fn:={ params:=[(.of 0),(.of 1)],res:=gy.res,body:=gy.b0,init:=in8 }
theorem gy.ok:fnA Tryz.prog Tryz.f108 [0,1,4,5,7,8,9,16]=some gy:=by kernel_rfl
abbrev F109.fr:=fr3
def F109.b0:IR:=dI [] 3720690365418879113973197627
def F109.res:List RV:=[.t (.of 2)]
def F109:Fn:={ params:=[(.of 0)],res:=F109.res,body:=F109.b0,init:=in3 }
theorem F109.ok:fnA Tryz.prog Tryz.f109 [0,1,2]=some F109:=by kernel_rfl
abbrev nT.fr:=fr3
def nT.t0:IR:=.reg (dA [] 46267086)
def nT.t1:IR:=.reg (dA [] 5916172131672)
def nT.t3:IR:=.seq nT.t0 (.seq nT.t1 .ret)
def nT.b0:IR:=nT.t3
def nT.res:List RV:=[.t (.of 2)]
def nT:Fn:={ params:=[(.of 0)],res:=nT.res,body:=nT.b0,init:=in3 }
theorem nT.ok:fnA Tryz.prog Tryz.f110 [0,1,2]=some nT:=by kernel_rfl
abbrev jy.fr:=fr10
def jy.t0:IR:=.reg (dA [] 130461)
def jy.t1:IR:=.reg (dA [] 1633944493793)
def jy.t2:IR:=.reg (dA [] 88469277)
def jy.t4:IR:=.reg (dA [] 2654807311336637483754196)
def jy.t5:IR:=.reg (dA [] 51184922423857513)
def jy.t6:IR:=.reg (dA [] 123682221250903448321985360848848)
def jy.t11:IR:=.reg (dA [] 59098478)
def jy.t14:IR:=.seq jy.t2 (.seq (.cond aT8 .skip (.exit 0)) (.seq (.block 1 (.seq jy.t4 (.seq jy.t5 (.cond aT9 jy.t6 .skip)))) jy.t11))
def jy.t15:IR:=.loop jy.t14
def jy.t18:IR:=.seq jy.t0 (.seq jy.t1 (.block 0 jy.t15))
def jy.b0:IR:=jy.t18
def jy.res:List RV:=[]
def jy:Fn:={ params:=[(.of 0),(.of 1)],res:=jy.res,body:=jy.b0,init:=in10 }
theorem jy.ok:fnA Tryz.prog Tryz.f111 [0,1,3,4,5,6,7,8,9,15]=some jy:=by kernel_rfl
abbrev nV.fr:=fr3
def nV.t0:IR:=.reg (dA [] 2657483470)
def nV.t1:IR:=.reg (dA [] 165361247539098009117980340)
def nV.t3:IR:=.seq nV.t0 (.seq nV.t1 .ret)
def nV.b0:IR:=nV.t3
def nV.res:List RV:=[.cell (.of 2) (some 4)]
def nV:Fn:={ params:=[(.of 0)],res:=nV.res,body:=nV.b0,init:=in3 }
theorem nV.ok:fnA Tryz.prog Tryz.f112 [0,1,2]=some nV:=by kernel_rfl
abbrev xh.fr:=fr6
def xh.t0:IR:=.reg (dA [] 1277168346463641)
def xh.t1:IR:=.reg (dA [] 4316950278418817976708661979661748)
def xh.t2:IR:=.reg (dA [] 2783715730597577272001685195440)
def xh.t6:IR:=dI [] 237088081363220937681152547517542993030704155790445229166701294386116229713585093264090708348923124337218790290540602
def xh.t7:IR:=.seq xh.t6 .ret
def xh.t9:IR:=.seq xh.t0 (.seq (.seq xh.t1 (.cond aT5 (.seq xh.t2 .ret) .skip)) xh.t7)
def xh.b0:IR:=xh.t9
def xh.res:List RV:=[.cell (.of 4) (some 4)]
def xh:Fn:={ params:=[(.of 0),(.of 1)],res:=xh.res,body:=xh.b0,init:=in6 }
theorem xh.ok:fnA Tryz.prog Tryz.f114 [0,1,2,3,4,10]=some xh:=by kernel_rfl
abbrev F115.fr:=fr5
def F115.b0:IR:=dI [] 80840872302272103742424632400100902312142514861110887
def F115.res:List RV:=[.cell (.of 4) (some 4)]
def F115:Fn:={ params:=[(.of 0),(.of 1)],res:=F115.res,body:=F115.b0,init:=in5 }
theorem F115.ok:fnA Tryz.prog Tryz.f115 [0,1,2,3,4]=some F115:=by kernel_rfl
abbrev F116.fr:=fr3
def F116.b0:IR:=dI [] 1816715549232498101316119
def F116.res:List RV:=[.t (.of 2)]
def F116:Fn:={ params:=[(.of 0),(.of 1)],res:=F116.res,body:=F116.b0,init:=in3 }
theorem F116.ok:fnA Tryz.prog Tryz.f116 [0,1,4]=some F116:=by kernel_rfl
abbrev F117.fr:=fr4
def F117.b0:IR:=dI [] 10886894973547938206916818002164514793064741142219394701065019
def F117.res:List RV:=[.t (.of 3)]
def F117:Fn:={ params:=[(.of 0),(.of 1)],res:=F117.res,body:=F117.b0,init:=in4 }
theorem F117.ok:fnA Tryz.prog Tryz.f117 [0,1,2,3]=some F117:=by kernel_rfl
abbrev F118.fr:=fr5
def F118.b0:IR:=dI [] 1043038184484400805200864486635183535719
def F118.res:List RV:=[.t (.of 4)]
def F118:Fn:={ params:=[(.of 0),(.of 1)],res:=F118.res,body:=F118.b0,init:=in5 }
theorem F118.ok:fnA Tryz.prog Tryz.f118 [0,1,2,3,4]=some F118:=by kernel_rfl
abbrev nW.fr:=fr5
def nW.t0:IR:=.reg (dA [] 1277168346463641)
def nW.t1:IR:=dI [] 664462328647997397077720386159776476435567931760248464947577876642445370
def nW.t3:IR:=.seq nW.t0 (.seq nW.t1 .ret)
def nW.b0:IR:=nW.t3
def nW.res:List RV:=[.cell (.of 4) (some 4)]
def nW:Fn:={ params:=[(.of 0),(.of 1)],res:=nW.res,body:=nW.b0,init:=in5 }
theorem nW.ok:fnA Tryz.prog Tryz.f119 [0,1,2,3,4]=some nW:=by kernel_rfl
abbrev F120.fr:=fr4
def F120.b0:IR:=dI [] 676856334187011849370504520092981408287052746443579945651017600199483
def F120.res:List RV:=[.cell (.of 2) (some 2)]
def F120:Fn:={ params:=[(.of 0)],res:=F120.res,body:=F120.b0,init:=in4 }
theorem F120.ok:fnA Tryz.prog Tryz.f120 [0,1,2,3]=some F120:=by kernel_rfl
abbrev F121.fr:=fr4
def F121.b0:IR:=dI [] 151087672124320939820100689196011191735932519
def F121.res:List RV:=[.t (.of 2),.t (.of 3)]
def F121:Fn:={ params:=[(.of 0)],res:=F121.res,body:=F121.b0,init:=in4 }
theorem F121.ok:fnA Tryz.prog Tryz.f121 [0,1,2,3]=some F121:=by kernel_rfl
abbrev dz.fr:=fr3
def dz.t0:IR:=.reg (dA [] 222427854)
def dz.sM (r:List RO):List RO:=dA r 1869132573930873
def dz.aH:List RO:=dz.sM []
def dz.sK (r:List RO):List RO:=dA r 8653855901024515172018960004772
def dz.tJ:List RO:=dz.sK dz.aH
def dz.t1:IR:=.reg dz.tJ
def dz.t3:IR:=.seq dz.t0 (.seq dz.t1 .ret)
def dz.b0:IR:=dz.t3
def dz.res:List RV:=[.t (.of 2)]
def dz:Fn:={ params:=[(.of 0)],res:=dz.res,body:=dz.b0,init:=in3 }
theorem dz.ok:fnA Tryz.prog Tryz.f122 [0,1,2]=some dz:=by kernel_rfl
abbrev zw.fr:=fr14
def zw.t0:IR:=.reg (dA [] 14330631969)
def zw.t1:IR:=.reg (dA [] 4346)
def zw.t2:IR:=.reg (dA [] 359513126583345)
def zw.t7:IR:=.reg (dA [] 39243417811255701393903915114067247620524)
def zw.t8:IR:=.reg [iQo 10 (.mv aT5)]
def zw.t9:IR:=.reg (dA [] 135351345)
def zw.t12:IR:=.reg (dA [] 21837503537)
def zw.zfr (r:List RO):List RO:=dA r 3210706509
def zw.r8_1:List RO:=zw.zfr []
def zw.zfq (r:List RO):List RO:=dA r 33241835326691398874473280227001341334874820
def zw.r8_0:List RO:=zw.zfq zw.r8_1
def zw.t13:IR:=.reg zw.r8_0
def zw.t18:IR:=.reg (dA [] 27711069188590304321748)
def zw.t19:IR:=.reg (dA [] 122614462309736)
def zw.t20:IR:=.reg (dA [] 71234686661018787340500)
def zw.t23:IR:=.reg [iQo 13 (.mv aT5)]
def zw.t24:IR:=.reg (dA [] 942495921)
def zw.t27:IR:=.reg (dA [] 841677111476956)
def zw.t29:IR:=.seq (.seq zw.t23 (.cond aT13 zw.t24 .skip)) (.seq zw.t27 .ret)
def zw.t33:IR:=.seq zw.t12 (.seq (.seq zw.t13 (.cond aT11 (.seq (.reg (dA [] 14330631969)) .ret) .skip)) (.seq zw.t18 (.seq (.seq zw.t19 (.cond aT12 zw.t20 .skip)) zw.t29)))
def zw.t38:IR:=.seq zw.t0 (.seq zw.t1 (.seq (.seq zw.t2 (.cond aT9 (.seq (.reg (dA [] 14330631969)) .ret) .skip)) (.seq zw.t7 (.seq (.seq zw.t8 (.cond aT10 zw.t9 .skip)) zw.t33))))
def zw.b0:IR:=zw.t38
def zw.res:List RV:=[.t (.of 1),.t (.of 2),.t (.of 3)]
def zw:Fn:={ params:=[(.of 0)],res:=zw.res,body:=zw.b0,init:=in14 }
theorem zw.ok:fnA Tryz.prog Tryz.f127 [0,2,3,4,5,6,7,8,9,13,22,35,43,49]=some zw:=by kernel_rfl
abbrev yc.fr:=fr9
def yc.t0:IR:=.reg [iQo 2 (.mv (.c (.str [])))]
def yc.sM (r:List RO):List RO:=dA r 508884408688127686106926311189935396340
def yc.aH:List RO:=yc.sM []
def yc.sK (r:List RO):List RO:=dA r 295039967120615242336673153292941252
def yc.tJ:List RO:=yc.sK yc.aH
def yc.t1:IR:=.reg yc.tJ
def yc.t6:IR:=.reg (dA [] 48055930)
def yc.t10:IR:=.reg (dA [] 117145816776145378054236112)
def yc.t11:IR:=dI [] 4080841670199149345920823066227002
def yc.t12:IR:=.reg [iQo 4 (.mv (.c (.str [])))]
def yc.t13:IR:=.reg (dA [] 48203514)
def yc.t14:IR:=.reg (dA [] 293701)
def yc.t17:IR:=.reg (dA [] 166051526796471333791410525823172)
def yc.t18:IR:=.reg (dA [] 389269114)
def yc.t19:IR:=.reg (dA [] 79446048384951343467376852)
def yc.t22:IR:=.reg (dA [] 26)
def yc.t25:IR:=.seq yc.t17 (.seq (.seq yc.t18 (.cond aT8 yc.t19 .skip)) (.seq yc.t22 .ret))
def yc.t29:IR:=.seq yc.t10 (.seq yc.t11 (.seq yc.t12 (.seq (.seq yc.t13 (.cond aT7 yc.t14 .skip)) yc.t25)))
def yc.t32:IR:=.seq yc.t0 (.seq (.seq yc.t1 (.cond aT5 (.seq (.reg (dA [] 2049723415986487824971732)) .ret) .skip)) (.seq (.seq yc.t6 (.cond aT6 (.reg (dA [] 10499726551759370196)) .skip)) yc.t29))
def yc.b0:IR:=yc.t32
def yc.res:List RV:=[.t (.of 2)]
def yc:Fn:={ params:=[(.of 0),(.of 1)],res:=yc.res,body:=yc.b0,init:=in9 }
theorem yc.ok:fnA Tryz.prog Tryz.f128 [0,1,4,5,6,20,27,45,54]=some yc:=by kernel_rfl
abbrev qi.fr:=fr6
def qi.t0:IR:=.reg (dA [] 2134047334)
def qi.t1:IR:=.reg (dA [] 6394)
def qi.t2:IR:=.reg (dA [] 8952601905)
def qi.t3:IR:=.reg (dA [] 29060616761448)
def qi.t4:IR:=.reg (dA [] 5476615684233371421930124508)
def qi.t8:IR:=dI [] 2582003491348001685072343925279400631127574611292118939169564730
def qi.t13:IR:=.seq qi.t0 (.seq qi.t1 (.seq qi.t2 (.seq (.seq qi.t3 (.cond aT5 (.seq qi.t4 .ret) .skip)) (.seq qi.t8 .ret))))
def qi.b0:IR:=qi.t13
def qi.res:List RV:=[.cell (.of 1) (some 2),.cell (.of 2) (some 2)]
def qi:Fn:={ params:=[(.of 0)],res:=qi.res,body:=qi.b0,init:=in6 }
theorem qi.ok:fnA Tryz.prog Tryz.f129 [0,2,3,4,5,12]=some qi:=by kernel_rfl
abbrev yj.fr:=fr11
def yj.t0:IR:=.reg (dA [] 688860906126745)
def yj.t1:IR:=.reg (dA [] 96414038)
def yj.t2:IR:=dI [] 535871472655470546817408812248968297540922
def yj.t5:IR:=.reg (dA [] 1040858697838555504308)
def yj.t6:IR:=.reg (dA [] 683115034783724449770126700)
def yj.t7:IR:=.reg (dA [] 693995367160256112342416748)
def yj.t8:IR:=.reg (dA [] 569789868427677471312564)
def yj.zft (r:List RO):List RO:=dA r 445618765
def yj.r6_1:List RO:=yj.zft []
def yj.zfs (r:List RO):List RO:=dA r 479919040668062750096775562302825156
def yj.r6_0:List RO:=yj.zfs yj.r6_1
def yj.t9:IR:=.reg yj.r6_0
def yj.t10:IR:=.reg (dA [] 18394)
def yj.t14:IR:=.reg (dA [] 1333225929144854129042610036866768)
def yj.t15:IR:=.seq yj.t14 .ret
def yj.t20:IR:=.seq yj.t5 (.seq yj.t6 (.seq yj.t7 (.seq yj.t8 (.seq (.seq yj.t9 (.cond aT10 (.seq yj.t10 .ret) .skip)) yj.t15))))
def yj.t22:IR:=.seq yj.t0 (.seq (.seq yj.t1 (.cond aT9 yj.t2 .skip)) yj.t20)
def yj.b0:IR:=yj.t22
def yj.res:List RV:=[.t (.of 4)]
def yj:Fn:={ params:=[(.of 0),(.of 1)],res:=yj.res,body:=yj.b0,init:=in11 }
theorem yj.ok:fnA Tryz.prog Tryz.f130 [0,1,2,3,4,5,6,8,10,12,49]=some yj:=by kernel_rfl
abbrev ja.fr:=fr8
def ja.t0:IR:=.reg (dA [] 1312946894)
def ja.t1:IR:=.reg (dA [] 97703784562520)
def ja.t2:IR:=.reg (dA [] 64645)
def ja.t6:IR:=.reg (dA [] 8024753021342739430162027434016064)
def ja.t7:IR:=.reg (dA [] 587460773838524)
def ja.t8:IR:=.reg (dA [] 94455322)
def ja.t11:IR:=.reg (dA [] 252489474104774783317142398740908)
def ja.t13:IR:=.reg (dA [] 140291121)
def ja.t15:IR:=.seq (.seq ja.t8 (.cond aT6 .skip (.exit 0))) (.seq (.block 1 ja.t11) ja.t13)
def ja.t16:IR:=.loop ja.t15
def ja.t19:IR:=.reg (dA [] 62859094)
def ja.t20:IR:=.reg (dA [] 1203481905)
def ja.t24:IR:=.reg (dA [] 154)
def ja.t30:IR:=.seq ja.t0 (.seq (.seq ja.t1 (.cond aT5 (.seq ja.t2 .ret) .skip)) (.seq ja.t6 (.seq (.seq ja.t7 (.block 0 ja.t16)) (.seq (.seq ja.t19 (.cond aT7 (.seq ja.t20 .ret) .skip)) (.seq ja.t24 .ret)))))
def ja.b0:IR:=ja.t30
def ja.res:List RV:=[.t (.of 2)]
def ja:Fn:={ params:=[(.of 0)],res:=ja.res,body:=ja.b0,init:=in8 }
theorem ja.ok:fnA Tryz.prog Tryz.f133 [0,1,2,3,4,8,23,35]=some ja:=by kernel_rfl
abbrev yx.fr:=fr7
def yx.t0:IR:=.reg (dA [] 128205)
def yx.t1:IR:=.reg [iQo 2 (.mv (.c .zb))]
def yx.t2:IR:=.reg (dA [] 103673329)
def yx.t3:IR:=.reg (dA [] 95274746)
def yx.t6:IR:=.reg (dA [] 9359044081)
def yx.t7:IR:=.reg (dA [] 48055834)
def yx.t8:IR:=.reg (dA [] 68594737)
def yx.t11:IR:=.reg (dA [] 1895885062915254492)
def yx.t12:IR:=.reg (dA [] 194042605041)
def yx.t13:IR:=.seq yx.t11 yx.t12
def yx.t17:IR:=.seq (.seq yx.t3 (.cond aT5 .skip (.exit 0))) (.block 1 (.seq yx.t6 (.seq (.seq yx.t7 (.cond aT6 yx.t8 .skip)) yx.t13)))
def yx.t18:IR:=.loop yx.t17
def yx.t20:IR:=.reg (dA [] 34659053260911208)
def yx.t21:IR:=.seq yx.t20 .ret
def yx.t25:IR:=.seq yx.t0 (.seq yx.t1 (.seq yx.t2 (.seq (.block 0 yx.t18) yx.t21)))
def yx.b0:IR:=yx.t25
def yx.res:List RV:=[.cell (.of 1) (some 2)]
def yx:Fn:={ params:=[(.of 0)],res:=yx.res,body:=yx.b0,init:=in7 }
theorem yx.ok:fnA Tryz.prog Tryz.f134 [0,2,3,4,5,9,13]=some yx:=by kernel_rfl
abbrev F135.fr:=fr2
def F135.b0:IR:=dI [] 23283563389296672142328012201456523112022332926131785308097893231690025798950039
def F135.res:List RV:=[.t (.of 1)]
def F135:Fn:={ params:=[(.of 0)],res:=F135.res,body:=F135.b0,init:=in2 }
theorem F135.ok:fnA Tryz.prog Tryz.f135 [0,2]=some F135:=by kernel_rfl
abbrev F136.fr:=fr9
def F136.b0:IR:=dI [] 1014320163333347454309895796193725789181772421071066212751872996226581183513472699744357237122502199808139963543
def F136.res:List RV:=[.t (.of 1)]
def F136:Fn:={ params:=[(.of 0)],res:=F136.res,body:=F136.b0,init:=in9 }
theorem F136.ok:fnA Tryz.prog Tryz.f136 [0,2,3,4,7,8,9,10,17]=some F136:=by kernel_rfl
abbrev F137.fr:=fr8
def F137.b0:IR:=dI [] 6418051102632356198003008549449550552223915721988995236357129390441701071375623165680901501188631
def F137.res:List RV:=[.t (.of 2)]
def F137:Fn:={ params:=[(.of 0),(.of 1)],res:=F137.res,body:=F137.b0,init:=in8 }
theorem F137.ok:fnA Tryz.prog Tryz.f137 [0,1,4,5,6,10,11,12]=some F137:=by kernel_rfl
abbrev F138.fr:=fr3
def F138.b0:IR:=dI [] 18824587182218762445759409053882463060055575
def F138.res:List RV:=[.t (.of 2)]
def F138:Fn:={ params:=[(.of 0),(.of 1)],res:=F138.res,body:=F138.b0,init:=in3 }
theorem F138.ok:fnA Tryz.prog Tryz.f138 [0,1,3]=some F138:=by kernel_rfl
abbrev di.fr:=fr10
def di.b3:IR:=dI [] 208345385320480566270917807212313901010328568940557474704245466722719863
def di.b2:IR:=(.loop di.b3)
def di.g1 (X2:IR):IR:=(.block 0 X2)
def di.b1:IR:=di.g1 di.b2
def di.b8:IR:=dI [] 811115
def di.b0:IR:=dI [di.b1,di.b8] 68718579315676365939140578577666800443
def di.res:List RV:=[.t (.of 3)]
def di:Fn:={ params:=[(.of 0),(.of 1)],res:=di.res,body:=di.b0,init:=in10 }
theorem di.ok:fnA Tryz.prog Tryz.f139 [0,1,2,4,5,7,9,10,11,12]=some di:=by kernel_rfl
abbrev F140.fr:=fr4
def F140.b0:IR:=dI [] 79988788270279548554429083189412660981754973558266226546381989476098026761321717912646859788689285106715636345921981898364972043573961925413755821323455479394173516330180578069637484366490494458538601157666214106100096125365051
def F140.res:List RV:=[.t (.of 2)]
def F140:Fn:={ params:=[(.of 0)],res:=F140.res,body:=F140.b0,init:=in4 }
theorem F140.ok:fnA Tryz.prog Tryz.f140 [0,1,2,28]=some F140:=by kernel_rfl
abbrev F141.fr:=fr1
def F141.b0:IR:=dI [] 11986586629521360180833750687809033650907361012531149381077580496848497686002538845765625101313627882310033522016929104271533687132094062458514843352969191474134049601175
def F141.res:List RV:=[.t (.of 0)]
def F141:Fn:={ params:=[],res:=F141.res,body:=F141.b0,init:=in1 }
theorem F141.ok:fnA Tryz.prog Tryz.f141 [0]=some F141:=by kernel_rfl
abbrev F142.fr:=fr3
def F142.b0:IR:=dI [] 17511716889393375181371714570111485266488471
def F142.res:List RV:=[.t (.of 1)]
def F142:Fn:={ params:=[(.of 0)],res:=F142.res,body:=F142.b0,init:=in3 }
theorem F142.ok:fnA Tryz.prog Tryz.f142 [0,2,4]=some F142:=by kernel_rfl
abbrev dh.fr:=fr6
def dh.b3:IR:=dI [] 26876606862269455233737331149734748391741470373346431186373917
def dh.b2:IR:=(.loop dh.b3)
def dh.g1 (X2:IR):IR:=(.block 0 X2)
def dh.b1:IR:=dh.g1 dh.b2
def dh.b8:IR:=dI [] 393835
def dh.b0:IR:=dI [dh.b1,dh.b8] 931309540130280983
def dh.res:List RV:=[.t (.of 2)]
def dh:Fn:={ params:=[(.of 0),(.of 1)],res:=dh.res,body:=dh.b0,init:=in6 }
theorem dh.ok:fnA Tryz.prog Tryz.f143 [0,1,4,5,6,10]=some dh:=by kernel_rfl
abbrev F144.fr:=fr4
def F144.b0:IR:=dI [] 5315912651167579400348980951481370220700268492508363225915
def F144.res:List RV:=[.t (.of 3)]
def F144:Fn:={ params:=[(.of 0),(.of 1)],res:=F144.res,body:=F144.b0,init:=in4 }
theorem F144.ok:fnA Tryz.prog Tryz.f144 [0,1,2,4]=some F144:=by kernel_rfl
abbrev F145.fr:=fr19
def F145.b0:IR:=dI [] 41679046924498435465232138751969436963423664834118460278468742219213333315054018908651405859132754138127790988496347614954701043673048348307909511836455488358686600415073643169350679568774916692628032569432459409721208036303292946862747200791771868436893324628078797897435076836384115636955567799720762946987260721494843
def F145.res:List RV:=[.t (.of 3)]
def F145:Fn:={ params:=[(.of 0),(.of 1)],res:=F145.res,body:=F145.b0,init:=in19 }
theorem F145.ok:fnA Tryz.prog Tryz.f145 [0,1,2,4,5,6,7,8,10,14,15,16,17,22,23,24,25,40,45]=some F145:=by kernel_rfl
abbrev F151.fr:=fr3
def F151.b0:IR:=dI [] 1816715549540361357093399
def F151.res:List RV:=[.t (.of 2)]
def F151:Fn:={ params:=[(.of 0),(.of 1)],res:=F151.res,body:=F151.b0,init:=in3 }
theorem F151.ok:fnA Tryz.prog Tryz.f151 [0,1,4]=some F151:=by kernel_rfl
abbrev F152.fr:=fr19
def F152.b0:IR:=dI [] 7974287462602414072209422739587062491381135383372900131686543557961998083282145620165147928034824589595559171911546958330094557448191152273550406835598188831039283176401009425076481589565445654125327331693707732172468653801368622439166477762243225724220737563728672142199075848061420595224335946684625354678677293004505189055551721202266364809169458157428777894856023008202227315511
def F152.res:List RV:=[.cell (.of 2) (some 2)]
def F152:Fn:={ params:=[(.of 0),(.of 1)],res:=F152.res,body:=F152.b0,init:=in19 }
theorem F152.ok:fnA Tryz.prog Tryz.f152 [0,1,4,5,6,7,9,10,11,21,26,27,28,29,35,36,37,41,55]=some F152:=by kernel_rfl
abbrev F153.fr:=fr12
def F153.b0:IR:=dI [] 15013587798170612322037149246499942662290804848334297163484002981755411694987140679608162099573560322676919145452439468592510304690542489265366045283890540054478196623973772650313119150142073718305591
def F153.res:List RV:=[.cell (.of 2) (some 2)]
def F153:Fn:={ params:=[(.of 0),(.of 1)],res:=F153.res,body:=F153.b0,init:=in12 }
theorem F153.ok:fnA Tryz.prog Tryz.f153 [0,1,4,5,6,8,9,13,14,15,16,27]=some F153:=by kernel_rfl
abbrev F154.fr:=fr9
def F154.b0:IR:=dI [] 31210523052148502975163458863975567270870745378445481576478813313946385874311758672305456417042759076509991685601884987
def F154.res:List RV:=[.t (.of 3)]
def F154:Fn:={ params:=[(.of 0),(.of 1)],res:=F154.res,body:=F154.b0,init:=in9 }
theorem F154.ok:fnA Tryz.prog Tryz.f154 [0,1,3,4,5,6,7,8,9]=some F154:=by kernel_rfl
abbrev F155.fr:=fr9
def F155.b0:IR:=dI [] 499368368834376047602615341823609076333931868215622184356263195558462912348419131356226106600009399357829100470310009659
def F155.res:List RV:=[.t (.of 3)]
def F155:Fn:={ params:=[(.of 0),(.of 1)],res:=F155.res,body:=F155.b0,init:=in9 }
theorem F155.ok:fnA Tryz.prog Tryz.f155 [0,1,3,4,5,6,7,8,9]=some F155:=by kernel_rfl
abbrev F168.fr:=fr4
def F168.b0:IR:=dI [] 1067791409397421094352899255649210595019840300559945710960370702388318131279325431814518912369953472669048315312601915
def F168.res:List RV:=[.t (.of 3)]
def F168:Fn:={ params:=[(.of 0),(.of 1)],res:=F168.res,body:=F168.b0,init:=in4 }
theorem F168.ok:fnA Tryz.prog Tryz.f168 [0,1,2,4]=some F168:=by kernel_rfl
abbrev F169.fr:=fr11
def F169.b0:IR:=dI [] 150116830863453059934564996431521792386718033643675412124149350271784908640857124235140390100708104059138891359598922612214433091542719309736415656083231170390873857841612612982594850124631016660413952626742006646085520254501911355
def F169.res:List RV:=[.t (.of 3)]
def F169:Fn:={ params:=[(.of 0),(.of 1)],res:=F169.res,body:=F169.b0,init:=in11 }
theorem F169.ok:fnA Tryz.prog Tryz.f169 [0,1,2,4,5,6,7,12,13,14,15]=some F169:=by kernel_rfl
abbrev F170.fr:=fr3
def F170.b0:IR:=dI [] 127486418691871942269578111741079
def F170.res:List RV:=[.t (.of 1)]
def F170:Fn:={ params:=[(.of 0)],res:=F170.res,body:=F170.b0,init:=in3 }
theorem F170.ok:fnA Tryz.prog Tryz.f170 [0,2,3]=some F170:=by kernel_rfl
abbrev F171.fr:=fr3
def F171.b0:IR:=dI [] 116203271166356061858294587
def F171.res:List RV:=[.t (.of 2)]
def F171:Fn:={ params:=[(.of 0)],res:=F171.res,body:=F171.b0,init:=in3 }
theorem F171.ok:fnA Tryz.prog Tryz.f171 [0,1,2]=some F171:=by kernel_rfl
abbrev eD.fr:=fr3
def eD.b0:IR:=dI [] 1816715549100556705982999
def eD.res:List RV:=[.t (.of 2)]
def eD:Fn:={ params:=[(.of 0),(.of 1)],res:=eD.res,body:=eD.b0,init:=in3 }
theorem eD.ok:fnA Tryz.prog Tryz.f173 [0,1,4]=some eD:=by kernel_rfl
abbrev eu.fr:=fr4
def eu.b0:IR:=dI [] 34529035907071408055522074373265387058091415
def eu.res:List RV:=[.t (.of 3)]
def eu:Fn:={ params:=[(.of 0),(.of 1),(.of 2)],res:=eu.res,body:=eu.b0,init:=in4 }
theorem eu.ok:fnA Tryz.prog Tryz.f174 [0,1,2,4]=some eu:=by kernel_rfl
abbrev aZ.fr:=fr3
def aZ.b0:IR:=dI [] 1816715549637118380337687
def aZ.res:List RV:=[.t (.of 2)]
def aZ:Fn:={ params:=[(.of 0),(.of 1)],res:=aZ.res,body:=aZ.b0,init:=in3 }
theorem aZ.ok:fnA Tryz.prog Tryz.f175 [0,1,4]=some aZ:=by kernel_rfl
abbrev aY.fr:=fr3
def aY.b0:IR:=dI [] 442980319761074874903
def aY.res:List RV:=[.t (.of 2)]
def aY:Fn:={ params:=[(.of 0),(.of 1)],res:=aY.res,body:=aY.b0,init:=in3 }
theorem aY.ok:fnA Tryz.prog Tryz.f176 [0,1,3]=some aY:=by kernel_rfl
abbrev vw.fr:=fr9
def vw.b4:IR:=dI [] 37728966224691767424925764632308411964482979790740034209320963112444595396147319
def vw.b3:IR:=(.loop vw.b4)
def vw.g2 (X3:IR):IR:=(.block 0 X3)
def vw.b2:IR:=vw.g2 vw.b3
def vw.b9:IR:=dI [] 884247
def vw.b0:IR:=dI [vw.b2,vw.b9] 2305811205864924449708458111251146891716389399
def vw.res:List RV:=[.t (.of 2)]
def vw:Fn:={ params:=[(.of 0),(.of 1)],res:=vw.res,body:=vw.b0,init:=in9 }
theorem vw.ok:fnA Tryz.prog Tryz.f177 [0,1,4,5,10,12,13,14,24]=some vw:=by kernel_rfl
abbrev F178.fr:=fr9
def F178.b0:IR:=dI [] 3760194125689308501453282498954513727763590156193194964610468205714607910881492576123074658784712381954875
def F178.res:List RV:=[.t (.of 3)]
def F178:Fn:={ params:=[(.of 0),(.of 1)],res:=F178.res,body:=F178.b0,init:=in9 }
theorem F178.ok:fnA Tryz.prog Tryz.f178 [0,1,3,4,5,7,8,9,16]=some F178:=by kernel_rfl
abbrev rC.fr:=fr3
def rC.t0:IR:=.reg (dA [] 6789)
def rC.t1:IR:=.reg (dA [] 25381614762190812)
def rC.t3:IR:=.seq rC.t0 (.seq rC.t1 .ret)
def rC.b0:IR:=rC.t3
def rC.res:List RV:=[.t (.of 2)]
def rC:Fn:={ params:=[(.of 0),(.of 1)],res:=rC.res,body:=rC.b0,init:=in3 }
theorem rC.ok:fnA Tryz.prog Tryz.f179 [0,1,4]=some rC:=by kernel_rfl
abbrev rA.fr:=fr3
def rA.t0:IR:=.reg (dA [] 222427854)
def rA.t1:IR:=.reg (dA [] 65141366005996809079164045601898025874796)
def rA.t3:IR:=.seq rA.t0 (.seq rA.t1 .ret)
def rA.b0:IR:=rA.t3
def rA.res:List RV:=[.t (.of 2)]
def rA:Fn:={ params:=[(.of 0)],res:=rA.res,body:=rA.b0,init:=in3 }
theorem rA.ok:fnA Tryz.prog Tryz.f180 [0,1,2]=some rA:=by kernel_rfl
abbrev jm.fr:=fr9
def jm.t0:IR:=.reg [iQo 1 (.mv (.c .zb))]
def jm.t1:IR:=.reg (dA [] 4028644060136)
def jm.t2:IR:=.reg (dA [] 1633944493793)
def jm.t3:IR:=.reg (dA [] 88469277)
def jm.t5:IR:=.reg (dA [] 2654807311336637483754196)
def jm.t6:IR:=.reg (dA [] 16663861407027550036322516)
def jm.t9:IR:=.reg (dA [] 59098478)
def jm.t12:IR:=.seq jm.t3 (.seq (.cond aT8 .skip (.exit 0)) (.seq (.block 1 (.seq jm.t5 jm.t6)) jm.t9))
def jm.t13:IR:=.loop jm.t12
def jm.t16:IR:=.reg (dA [] 18714)
def jm.t20:IR:=.seq jm.t0 (.seq jm.t1 (.seq (.seq jm.t2 (.block 0 jm.t13)) (.seq jm.t16 .ret)))
def jm.b0:IR:=jm.t20
def jm.res:List RV:=[.t (.of 1)]
def jm:Fn:={ params:=[(.of 0)],res:=jm.res,body:=jm.b0,init:=in9 }
theorem jm.ok:fnA Tryz.prog Tryz.f181 [0,2,3,4,5,9,10,11,12]=some jm:=by kernel_rfl
abbrev nY.fr:=fr3
def nY.t0:IR:=.reg (dA [] 6789)
def nY.t1:IR:=.reg (dA [] 25381624090322908)
def nY.t3:IR:=.seq nY.t0 (.seq nY.t1 .ret)
def nY.b0:IR:=nY.t3
def nY.res:List RV:=[.t (.of 2)]
def nY:Fn:={ params:=[(.of 0),(.of 1)],res:=nY.res,body:=nY.b0,init:=in3 }
theorem nY.ok:fnA Tryz.prog Tryz.f182 [0,1,4]=some nY:=by kernel_rfl
abbrev eF.fr:=fr2
def eF.b0:IR:=dI [] 3798501573346471639997591
def eF.res:List RV:=[.t (.of 1)]
def eF:Fn:={ params:=[(.of 0)],res:=eF.res,body:=eF.b0,init:=in2 }
theorem eF.ok:fnA Tryz.prog Tryz.f183 [0,2]=some eF:=by kernel_rfl
abbrev xw.fr:=fr8
def xw.b3:IR:=dI [] 91187009822375470829159850855832888956520211240209580150477943
def xw.b2:IR:=(.loop xw.b3)
def xw.g1 (X2:IR):IR:=(.block 0 X2)
def xw.b1:IR:=xw.g1 xw.b2
def xw.b8:IR:=dI [] 3438103
def xw.b0:IR:=dI [xw.b1,xw.b8] 14900964377968465431
def xw.res:List RV:=[.t (.of 2)]
def xw:Fn:={ params:=[(.of 0),(.of 1)],res:=xw.res,body:=xw.b0,init:=in8 }
theorem xw.ok:fnA Tryz.prog Tryz.f184 [0,1,4,5,7,8,9,16]=some xw:=by kernel_rfl
abbrev eG.fr:=fr3
def eG.b0:IR:=dI [] 1815435018077608086202903
def eG.res:List RV:=[.t (.of 2)]
def eG:Fn:={ params:=[(.of 0),(.of 1)],res:=eG.res,body:=eG.b0,init:=in3 }
theorem eG.ok:fnA Tryz.prog Tryz.f185 [0,1,3]=some eG:=by kernel_rfl
abbrev nS.fr:=fr3
def nS.t0:IR:=.reg (dA [] 2657483470)
def nS.t1:IR:=dI [] 63556529995481638863924033926714
def nS.t3:IR:=.seq nS.t0 (.seq nS.t1 .ret)
def nS.b0:IR:=nS.t3
def nS.res:List RV:=[.cell (.of 2) (some 4)]
def nS:Fn:={ params:=[(.of 0)],res:=nS.res,body:=nS.b0,init:=in3 }
theorem nS.ok:fnA Tryz.prog Tryz.f186 [0,1,2]=some nS:=by kernel_rfl
abbrev nP.fr:=fr2
def nP.t0:IR:=.reg (dA [] 29901)
def nP.t1:IR:=.reg (dA [] 1057730758129)
def nP.t3:IR:=.seq nP.t0 (.seq nP.t1 .ret)
def nP.b0:IR:=nP.t3
def nP.res:List RV:=[.cell (.of 1) (some 2)]
def nP:Fn:={ params:=[(.of 0)],res:=nP.res,body:=nP.b0,init:=in2 }
theorem nP.ok:fnA Tryz.prog Tryz.f187 [0,2]=some nP:=by kernel_rfl
abbrev fI.fr:=fr18
def fI.t0:IR:=.reg (dA [] 1312946894)
def fI.t1:IR:=.reg (dA [] 16821313839017)
def fI.t2:IR:=.reg (dA [] 754017344856)
def fI.t60:IR:=.seq fI.t0 (.seq (.seq fI.t1 (.cond aT12 (.seq fI.t2 .ret) .skip)) (.seq (.reg (dA [] 9694312920568345458096)) (.seq (.reg (dA [] 31555907419910)) (iSr [(iQo 6 (.mv (.c .zb)))] (.seq (.block 0 (.loop (.seq (.seq (.reg (dA [] 96171652145)) (.cond aT13 .skip (.exit 0))) (.block 1 (.seq (.reg (dA [] 4551788558788645126791364)) (.seq (.reg (dA [] 517829)) (.seq (.seq (.reg (dA [] 770696798129)) (.cond aT14 (.reg (dA [] 409266019041030012636)) .skip)) (.seq (.seq (.reg (dA [] 384928966833)) (.cond aT15 (.reg (dA [] 28595456553249225274001300792266448)) .skip)) (.seq (.reg (dA [] 23863885705989604690652)) (.reg (dA [] 8282))))))))))) (.seq (.reg (dA [] 33023181)) (.seq (.seq (.reg (dA [] 39333)) (.cond aT16 (.reg (dA [] 307949205437)) .skip)) (.seq (.seq (.reg (dA [] 1068261692776)) (.block 2 (.loop (.seq (.seq (.reg (dA [] 6043613178)) (.cond aT17 .skip (.exit 2))) (.seq (.block 3 (.reg (dA [] 14771225105837050588))) (.reg (dA [] 16691589105))))))) (.seq (.reg (dA [] 53870046)) .ret)))))))))
def fI.b0:IR:=fI.t60
def fI.res:List RV:=[.t (.of 2)]
def fI:Fn:={ params:=[(.of 0)],res:=fI.res,body:=fI.b0,init:=in18 }
theorem fI.ok:fnA Tryz.prog Tryz.f188 [0,1,2,3,4,5,6,7,8,9,10,11,14,26,35,42,54,60]=some fI:=by kernel_rfl
abbrev qf.fr:=fr4
def qf.t0:IR:=.reg [iQo 1 (.mv (.c (.str [])))]
def qf.t1:IR:=.reg (dA [] 25154918800881)
def qf.t2:IR:=.reg (dA [] 605113841)
def qf.t6:IR:=.reg (dA [] 97688326495729)
def qf.t7:IR:=.reg (dA [] 18682)
def qf.t11:IR:=.reg (dA [] 155822304753)
def qf.t15:IR:=.seq qf.t0 (.seq (.seq qf.t1 (.cond aT2 (.seq qf.t2 .ret) .skip)) (.seq (.seq qf.t6 (.cond aT3 (.seq qf.t7 .ret) .skip)) (.seq qf.t11 .ret)))
def qf.b0:IR:=qf.t15
def qf.res:List RV:=[.t (.of 1)]
def qf:Fn:={ params:=[(.of 0)],res:=qf.res,body:=qf.b0,init:=in4 }
theorem qf.ok:fnA Tryz.prog Tryz.f189 [0,2,5,10]=some qf:=by kernel_rfl
abbrev ze.fr:=fr19
def ze.t0:IR:=.reg (dA [] 31997330)
def ze.t1:IR:=.reg (dA [] 193642749425)
def ze.t2:IR:=.reg [iQo 3 (.mv (.c .zb))]
def ze.t3:IR:=.reg [iQo 4 (.mv aC0)]
def ze.zfw (r:List RO):List RO:=dA r 37065630532185392425659702543330129591459684
def ze.r4_1:List RO:=ze.zfw []
def ze.zfv (r:List RO):List RO:=dA r 46253668401
def ze.r4_0:List RO:=ze.zfv ze.r4_1
def ze.t4:IR:=.reg ze.r4_0
def ze.t5:IR:=.cond aT12 .skip (.exit 0)
def ze.t7:IR:=.reg (dA [] 3732785)
def ze.zuy (r:List RO):List RO:=dA r 1792624205
def ze.r6_2:List RO:=ze.zuy []
def ze.zft (r:List RO):List RO:=dA r 105468358932595240142478414336349116
def ze.r6_1:List RO:=ze.zft ze.r6_2
def ze.zfs (r:List RO):List RO:=dA r 152784326610613875220390861764
def ze.r6_0:List RO:=ze.zfs ze.r6_1
def ze.t8:IR:=.reg ze.r6_0
def ze.t11:IR:=.reg (dA [] 475848433)
def ze.t13:IR:=.seq (.seq ze.t8 (.cond aT13 .skip (.exit 2))) (.block 3 ze.t11)
def ze.t14:IR:=.loop ze.t13
def ze.t16:IR:=.reg (dA [] 58242137583080)
def ze.t19:IR:=.reg (dA [] 2684209)
def ze.t20:IR:=dI [] 362992036655494835926726621136597319860937602369394272414326966101238309690
def ze.t21:IR:=.reg (dA [] 1089723687802610994306011052)
def ze.t22:IR:=.reg [iQo 8 (.mv aC0)]
def ze.t23:IR:=.reg (dA [] 56630990542148622859984)
def ze.t26:IR:=dI [] 2745410121702906115723278158884764266768593402781634199307318955241071418
def ze.t28:IR:=.reg (dA [] 2025439153)
def ze.t30:IR:=.seq (.seq ze.t23 (.cond aT15 .skip (.exit 4))) (.seq (.block 5 ze.t26) ze.t28)
def ze.t31:IR:=.loop ze.t30
def ze.t34:IR:=.reg [iQo 9 (.mv aC0)]
def ze.t35:IR:=.reg (dA [] 61354074949480)
def ze.t38:IR:=.reg (dA [] 451691131836498929604)
def ze.t39:IR:=.reg (dA [] 121322700017827668854599778143952)
def ze.t42:IR:=.reg [iQo 11 (.mv aC0)]
def ze.t43:IR:=.reg (dA [] 226528573854612690255824)
def ze.t46:IR:=dI [] 1959189567992596808994684554551175424262856985604833862655408894906681634543986859479240587048928734039244020721320762
def ze.t48:IR:=.reg (dA [] 8345841649)
def ze.t50:IR:=.seq (.seq ze.t43 (.cond aT18 .skip (.exit 8))) (.seq (.block 9 ze.t46) ze.t48)
def ze.t51:IR:=.loop ze.t50
def ze.t57:IR:=.reg (dA [] 2964960177)
def ze.t59:IR:=.seq (.seq ze.t35 (.cond aT16 .skip (.exit 6))) (.seq (.block 7 (.seq ze.t38 (.seq (.seq ze.t39 (.cond aT17 (.exit 7) .skip)) (.seq ze.t42 (.block 8 ze.t51))))) ze.t57)
def ze.t60:IR:=.loop ze.t59
def ze.t63:IR:=.reg (dA [] 112576349505172563164)
def ze.t69:IR:=.seq (.seq ze.t16 (.cond aT14 (.exit 1) .skip)) (.seq ze.t19 (.seq ze.t20 (.seq ze.t21 (.seq (.seq ze.t22 (.block 4 ze.t31)) (.seq (.seq ze.t34 (.block 6 ze.t60)) ze.t63)))))
def ze.t73:IR:=.reg (dA [] 70151217)
def ze.t74:IR:=.seq (.block 1 (.seq ze.t7 (.seq (.block 2 ze.t14) ze.t69))) ze.t73
def ze.t75:IR:=.seq (.seq ze.t4 ze.t5) ze.t74
def ze.t76:IR:=.loop ze.t75
def ze.t79:IR:=.reg (dA [] 4112687508459513808)
def ze.t80:IR:=.seq ze.t79 .ret
def ze.t84:IR:=.seq ze.t0 (.seq ze.t1 (.seq ze.t2 (.seq (.seq ze.t3 (.block 0 ze.t76)) ze.t80)))
def ze.b0:IR:=ze.t84
def ze.res:List RV:=[.t (.of 1),.t (.of 2)]
def ze:Fn:={ params:=[(.of 0)],res:=ze.res,body:=ze.b0,init:=in19 }
theorem ze.ok:fnA Tryz.prog Tryz.f190 [0,2,3,4,5,6,7,8,9,10,11,12,25,43,49,80,101,117,124]=some ze:=by kernel_rfl
abbrev gm.fr:=fr6
def gm.t0:IR:=.reg (dA [] 6789)
def gm.t1:IR:=.reg [iQo 3 (.mv aC0)]
def gm.t2:IR:=.reg (dA [] 955747005032)
def gm.t5:IR:=.reg (dA [] 463364778218907604)
def gm.t6:IR:=.reg (dA [] 24453)
def gm.t11:IR:=.reg (dA [] 103705905)
def gm.t13:IR:=.seq (.seq gm.t2 (.cond aT4 .skip (.exit 0))) (.seq (.block 1 (.seq gm.t5 (.cond aT5 (.seq gm.t6 .ret) .skip))) gm.t11)
def gm.t14:IR:=.loop gm.t13
def gm.t17:IR:=.reg (dA [] 6789)
def gm.t20:IR:=.seq gm.t0 (.seq (.seq gm.t1 (.block 0 gm.t14)) (.seq gm.t17 .ret))
def gm.b0:IR:=gm.t20
def gm.res:List RV:=[.t (.of 2)]
def gm:Fn:={ params:=[(.of 0),(.of 1)],res:=gm.res,body:=gm.b0,init:=in6 }
theorem gm.ok:fnA Tryz.prog Tryz.f191 [0,1,4,5,9,17]=some gm:=by kernel_rfl
abbrev nX.fr:=fr5
def nX.t0:IR:=.reg (dA [] 1277168346463641)
def nX.t1:IR:=dI [] 124971475170492520221896744058842938
def nX.t3:IR:=.seq nX.t0 (.seq nX.t1 .ret)
def nX.b0:IR:=nX.t3
def nX.res:List RV:=[.cell (.of 4) (some 4)]
def nX:Fn:={ params:=[(.of 0),(.of 1)],res:=nX.res,body:=nX.b0,init:=in5 }
theorem nX.ok:fnA Tryz.prog Tryz.f192 [0,1,2,3,4]=some nX:=by kernel_rfl
abbrev fG.fr:=fr6
def fG.t0:IR:=.reg (dA [] 1046870734)
def fG.t1:IR:=.reg (dA [] 4527000512637013277809389303627092229796)
def fG.t2:IR:=.reg (dA [] 40804207484850879164)
def fG.t11:IR:=.seq fG.t0 (.seq (.seq fG.t1 (.cond aT5 (.seq fG.t2 .ret) .skip)) (.seq (.reg (dA [] 9694312920568345458096)) (.seq (.reg (dA [] 163215464401562211548)) .ret)))
def fG.b0:IR:=fG.t11
def fG.res:List RV:=[.cell (.of 2) (some 2)]
def fG:Fn:={ params:=[(.of 0)],res:=fG.res,body:=fG.b0,init:=in6 }
theorem fG.ok:fnA Tryz.prog Tryz.f193 [0,1,2,3,4,12]=some fG:=by kernel_rfl
abbrev nQ.fr:=fr3
def nQ.t0:IR:=.reg (dA [] 46267086)
def nQ.t1:IR:=.reg (dA [] 410144776696887196348)
def nQ.t3:IR:=.seq nQ.t0 (.seq nQ.t1 .ret)
def nQ.b0:IR:=nQ.t3
def nQ.res:List RV:=[.t (.of 2)]
def nQ:Fn:={ params:=[(.of 0)],res:=nQ.res,body:=nQ.b0,init:=in3 }
theorem nQ.ok:fnA Tryz.prog Tryz.f194 [0,1,2]=some nQ:=by kernel_rfl
abbrev jr.fr:=fr8
def jr.t0:IR:=.reg (dA [] 1277168346463641)
def jr.t1:IR:=.reg (dA [] 6449964477009257)
def jr.t2:IR:=dI [] 535871472655470543946209947880027547594042
def jr.t5:IR:=.reg (dA [] 70738926311172245772089040831181135524)
def jr.t6:IR:=.reg (dA [] 648136924144166705880)
def jr.t10:IR:=.reg (dA [] 67332334174483189874439612)
def jr.t11:IR:=dI [] 4721288898234728036907741161259027958800286764968883087674
def jr.t13:IR:=.seq jr.t10 (.seq jr.t11 .ret)
def jr.t14:IR:=.seq (.seq jr.t5 (.cond aT7 (.seq jr.t6 .ret) .skip)) jr.t13
def jr.t16:IR:=.seq jr.t0 (.seq (.seq jr.t1 (.cond aT6 jr.t2 .skip)) jr.t14)
def jr.b0:IR:=jr.t16
def jr.res:List RV:=[.cell (.of 4) (some 4)]
def jr:Fn:={ params:=[(.of 0),(.of 1)],res:=jr.res,body:=jr.b0,init:=in8 }
theorem jr.ok:fnA Tryz.prog Tryz.f195 [0,1,2,3,4,5,8,20]=some jr:=by kernel_rfl
abbrev ve.fr:=fr3
def ve.t0:IR:=.reg [iQo 1 (.mv aC0)]
def ve.t1:IR:=.reg (dA [] 5956367857)
def ve.t2:IR:=.reg [iQo 1 (.mv aC0)]
def ve.t6:IR:=.reg (dA [] 10027653289948)
def ve.t9:IR:=.seq ve.t0 (.seq (.seq ve.t1 (.cond aT2 (.seq ve.t2 .ret) .skip)) (.seq ve.t6 .ret))
def ve.b0:IR:=ve.t9
def ve.res:List RV:=[.t (.of 1)]
def ve:Fn:={ params:=[(.of 0)],res:=ve.res,body:=ve.b0,init:=in3 }
theorem ve.ok:fnA Tryz.prog Tryz.f196 [0,2,5]=some ve:=by kernel_rfl
abbrev wu.fr:=fr14
def wu.t0:IR:=.reg (dA [] 432743416331673)
def wu.t1:IR:=.reg (dA [] 1131705619317544355091662226189822402212)
def wu.t2:IR:=.reg (dA [] 63522903821355700)
def wu.t3:IR:=.reg (dA [] 543493280517846011865494895556)
def wu.t4:IR:=.reg (dA [] 466194075377)
def wu.t30:IR:=.seq wu.t0 (.seq (.seq wu.t1 (.cond aT10 (.seq wu.t2 (.seq wu.t3 (.cond aT11 (.seq wu.t4 .ret) .skip))) .skip)) (.seq (.reg (dA [] 132715649148137345267120)) (.seq (.reg (dA [] 416592593698453635020208)) (.seq (.block 0 (.seq (.reg (dA [] 36313436743016)) (.cond aT12 (.seq (.reg (dA [] 1049715072793245658403490516)) .ret) (.seq (.reg (dA [] 39402384156871541468)) (.cond aT13 (.seq (.reg (dA [] 1049715072793245933281397460)) .ret) .skip))))) (.seq (.reg (dA [] 2099430145586491866253999828)) .ret)))))
def wu.b0:IR:=wu.t30
def wu.res:List RV:=[.cell (.of 4) (some 2)]
def wu:Fn:={ params:=[(.of 0),(.of 1)],res:=wu.res,body:=wu.b0,init:=in14 }
theorem wu.ok:fnA Tryz.prog Tryz.f197 [0,1,2,3,4,5,6,7,8,9,17,30,43,52]=some wu:=by kernel_rfl
abbrev um.fr:=fr14
def um.t0:IR:=.reg (dA [] 432743416331673)
def um.t1:IR:=.reg (dA [] 2263506911650390477075854224544231268004)
def um.t2:IR:=dI [] 38681509107802432916585223305070252061027839479696715331642
def um.t3:IR:=.reg (dA [] 4317015267755660151866987291048916)
def um.t4:IR:=.reg (dA [] 540410035344037140347456176)
def um.t5:IR:=.reg (dA [] 31285754699445037788)
def um.t9:IR:=.reg (dA [] 3819061854532968)
def um.t24:IR:=.seq um.t0 (.seq (.seq um.t1 (.cond aT11 (.seq um.t2 (.seq um.t3 (.cond aT12 (.seq (.seq um.t4 (.cond aT13 (.seq um.t5 .ret) .skip)) (.seq um.t9 .ret)) .skip))) .skip)) (.seq (.reg (dA [] 142243392462208328676784)) (.seq (.reg (dA [] 114425702399054324774320)) (.seq (.reg (dA [] 140890372117664138246248857051513540)) .ret))))
def um.b0:IR:=um.t24
def um.res:List RV:=[.cell (.of 4) (some 2)]
def um:Fn:={ params:=[(.of 0),(.of 1)],res:=um.res,body:=um.b0,init:=in14 }
theorem um.ok:fnA Tryz.prog Tryz.f198 [0,1,2,3,4,5,6,7,8,9,10,18,34,41]=some um:=by kernel_rfl
abbrev F199.fr:=fr8
def F199.b0:IR:=dI [] 13358192353972869308412916892215691388242259396689049007324610463471886631412071007014311447
def F199.res:List RV:=[.t (.of 2)]
def F199:Fn:={ params:=[(.of 0),(.of 1)],res:=F199.res,body:=F199.b0,init:=in8 }
theorem F199.ok:fnA Tryz.prog Tryz.f199 [0,1,4,5,7,8,9,16]=some F199:=by kernel_rfl
abbrev F200.fr:=fr5
def F200.b0:IR:=dI [] 3286567117313030902741996756901282423913563261583697963258558438930563536195945494119
def F200.res:List RV:=[.t (.of 4)]
def F200:Fn:={ params:=[(.of 0),(.of 1)],res:=F200.res,body:=F200.b0,init:=in5 }
theorem F200.ok:fnA Tryz.prog Tryz.f200 [0,1,2,3,4]=some F200:=by kernel_rfl
abbrev gu.fr:=fr18
def gu.t0:IR:=.reg (dA [] 30321349978104527672)
def gu.sM (r:List RO):List RO:=dA r 1054028056071499418374299308892
def gu.aH:List RO:=gu.sM []
def gu.sK (r:List RO):List RO:=dA r 35368525824875251877150475654038232740
def gu.tJ:List RO:=gu.sK gu.aH
def gu.t1:IR:=.reg gu.tJ
def gu.t2:IR:=dI [] 301360375332082862844004623501038678691281996789818
def gu.t3:IR:=.reg (dA [] 770083930)
def gu.t4:IR:=dI [] 16728537768805850048114917865861434
def gu.t7:IR:=.reg (dA [] 2154634636605393683237579476)
def gu.t29:IR:=.seq gu.t0 (.seq (.seq gu.t1 (.cond aT15 (.seq gu.t2 (.seq (.seq gu.t3 (.cond aT16 gu.t4 .skip)) (.seq gu.t7 .ret))) .skip)) (.seq (.reg (dA [] 416592593698453635085744)) (.seq (.reg (dA [] 60243003368550944290224)) (.seq (.reg (dA [] 319683100762003394329677508)) (.seq (.reg (dA [] 1097272107162234135505222508383994234782080827358592)) (.seq (.seq (.reg (dA [] 825182746895048041)) (.cond aT17 (.nk [] [((.s (.zm 2 aT13)),1,[]),((.s (.zm 2 aT14)),2,[]),((.s (.zm 2 aT3)),2,[]),((iCa 187 [aC1]),0,[]),((iCa 266 [aS3,aS0]),0,[]),((iCa 197 [aS3,aS2]),0,[]),((.w .none none (.store 2 aT13 aS1)),0,[]),((.w .none none (.store 2 aT14 aS0)),0,[])]) .skip)) (.seq (.nk [] [((.s (.zm 2 aT13)),0,[]),((.s (.zm 2 aT14)),1,[]),((.w .none none (.store 2 aT4 aS1)),0,[]),((.w .none none (.store 2 aT5 aS0)),0,[])]) .ret)))))))
def gu.b0:IR:=gu.t29
def gu.res:List RV:=[.cell (.of 4) (some 2),.cell (.of 5) (some 2)]
def gu:Fn:={ params:=[(.of 0),(.of 1)],res:=gu.res,body:=gu.b0,init:=in18 }
theorem gu.ok:fnA Tryz.prog Tryz.f201 [0,1,2,3,4,5,6,7,8,9,11,12,13,14,15,28,40,75]=some gu:=by kernel_rfl
abbrev fP.fr:=fr4
def fP.t0:IR:=.reg [iQo 1 (.mv (.c (.str [])))]
def fP.t1:IR:=.reg (dA [] 3222018491711136000004214113532047276)
def fP.t2:IR:=.reg (dA [] 325262331021531864)
def fP.t5:IR:=.seq fP.t0 (.seq fP.t1 (.seq fP.t2 .ret))
def fP.b0:IR:=fP.t5
def fP.res:List RV:=[.t (.of 1)]
def fP:Fn:={ params:=[(.of 0)],res:=fP.res,body:=fP.b0,init:=in4 }
theorem fP.ok:fnA Tryz.prog Tryz.f203 [0,2,3,4]=some fP:=by kernel_rfl
end
end Go.Ev
