import Derived.Test.YtfgpjkchdelphaaGreatDoorIrA
import Derived.Test.YtfgpjkchdelphaaGreatDoorEvC
import Derived.Test.YtfgpjkchdelphaaGreatDoorProg
import Derived.KernelRfl
set_option linter.unusedSimpArgs false
set_option linter.unusedVariables false
namespace Go.Ev
open Go Go.Proofs
set_option maxRecDepth 100000
noncomputable section

abbrev yx.fr:=fr8
def yx.t0:IR:=.reg [iQo 2 (.mv aC0)]
def yx.t1:IR:=.reg (dA [] 3984905713)
def yx.t2:IR:=.reg (dA [] 133953821)
def yx.t4:IR:=.reg (dA [] 42743)
def yx.t5:IR:=.reg (dA [] 14082447672567333898155)
def yx.t6:IR:=.reg (dA [] 311)
def yx.t12:IR:=.reg (dA [] 93056735)
def yx.t15:IR:=.seq yx.t2 (.seq (.cond aT6 .skip (.exit 0)) (.seq (.block 1 (.seq yx.t4 (.seq yx.t5 (.cond aT7 (.seq yx.t6 .ret) .skip)))) yx.t12))
def yx.t16:IR:=.loop yx.t15
def yx.t19:IR:=.reg [iQo 2 (.mv (.c (I (-1))))]
def yx.t22:IR:=.seq yx.t0 (.seq (.seq yx.t1 (.block 0 yx.t16)) (.seq yx.t19 .ret))
def yx.b0:IR:=yx.t22
def yx.res:List RV:=[.t (.of 2)]
def yx:Fn:={ params:=[(.of 0),(.of 1)],res:=yx.res,body:=yx.b0,init:=in8 }
theorem yx.ok:fnA Tryz.prog Tryz.f108 [0,1,4,5,7,8,9,16]=some yx:=by kernel_rfl
abbrev ng.fr:=fr3
def ng.t0:IR:=.reg (dA [] 42202271)
def ng.t1:IR:=.reg (dA [] 8265757904979891)
def ng.t3:IR:=.seq ng.t0 (.seq ng.t1 .ret)
def ng.b0:IR:=ng.t3
def ng.res:List RV:=[.t (.of 2)]
def ng:Fn:={ params:=[(.of 0)],res:=ng.res,body:=ng.b0,init:=in3 }
theorem ng.ok:fnA Tryz.prog Tryz.f109 [0,1,2]=some ng:=by kernel_rfl
abbrev fI.fr:=fr3
def fI.t0:IR:=.reg (dA [] 243528863)
def fI.t1:IR:=.reg (dA [] 11832345311667)
def fI.t3:IR:=.seq fI.t0 (.seq fI.t1 .ret)
def fI.b0:IR:=fI.t3
def fI.res:List RV:=[.t (.of 2)]
def fI:Fn:={ params:=[(.of 0)],res:=fI.res,body:=fI.b0,init:=in3 }
theorem fI.ok:fnA Tryz.prog Tryz.f110 [0,1,2]=some fI:=by kernel_rfl
abbrev jq.fr:=fr10
def jq.t0:IR:=.reg (dA [] 126109)
def jq.t1:IR:=.reg (dA [] 4107853979489)
def jq.t2:IR:=.reg (dA [] 91877149)
def jq.t4:IR:=.reg (dA [] 305113782377930397997496747)
def jq.t5:IR:=.reg (dA [] 264499431433302505)
def jq.t6:IR:=.reg (dA [] 989151205951183127804230268932003)
def jq.t11:IR:=.reg (dA [] 118223583)
def jq.t14:IR:=.seq jq.t2 (.seq (.cond aT8 .skip (.exit 0)) (.seq (.block 1 (.seq jq.t4 (.seq jq.t5 (.cond aT9 jq.t6 .skip)))) jq.t11))
def jq.t15:IR:=.loop jq.t14
def jq.t18:IR:=.seq jq.t0 (.seq jq.t1 (.block 0 jq.t15))
def jq.b0:IR:=jq.t18
def jq.res:List RV:=[]
def jq:Fn:={ params:=[(.of 0),(.of 1)],res:=jq.res,body:=jq.b0,init:=in10 }
theorem jq.ok:fnA Tryz.prog Tryz.f111 [0,1,3,4,5,6,7,8,9,15]=some jq:=by kernel_rfl
abbrev fK.fr:=fr3
def fK.t0:IR:=.reg (dA [] 5052822687)
def fK.t1:IR:=.reg (dA [] 42399460931010825112120171)
def fK.t3:IR:=.seq fK.t0 (.seq fK.t1 .ret)
def fK.b0:IR:=fK.t3
def fK.res:List RV:=[.cell (.of 2) (some 4)]
def fK:Fn:={ params:=[(.of 0)],res:=fK.res,body:=fK.b0,init:=in3 }
theorem fK.ok:fnA Tryz.prog Tryz.f112 [0,1,2]=some fK:=by kernel_rfl
abbrev zk.fr:=fr14
def zk.t0:IR:=.reg (dA [] 2950535)
def zk.t1:IR:=.reg [iQo 4 (.mv (.c .za))]
def zk.t2:IR:=.reg (dA [] 47605997041)
def zk.t3:IR:=.reg [iQo 6 (.mv aC0)]
def zk.t4:IR:=.reg (dA [] 30645016840915)
def zk.t7:IR:=dI [] 8768387391081952652352649185142013449582847327468456886366283541389613791184062944274173777122376662
def zk.t9:IR:=.reg (dA [] 610065073)
def zk.t11:IR:=.seq (.seq zk.t4 (.cond aT11 .skip (.exit 0))) (.seq (.block 1 zk.t7) zk.t9)
def zk.t12:IR:=.loop zk.t11
def zk.t15:IR:=.reg (dA [] 8890212028887896817571)
def zk.t16:IR:=.reg (dA [] 189659332337)
def zk.t17:IR:=.reg [iQo 10 (.mv aC0)]
def zk.t18:IR:=.reg (dA [] 244335501882067)
def zk.t21:IR:=.reg (dA [] 143651169919444929451)
def zk.t22:IR:=.reg (dA [] 2950535)
def zk.zm7 (r:List RO):List RO:=dA r 130046070838905630746603
def zk.zt6:List RO:=zk.zm7 []
def zk.zm6 (r:List RO):List RO:=dA r 149284254190025787775883
def zk.zm5:List RO:=zk.zm6 zk.zt6
def zk.t26:IR:=.rq [] (zk.zm5.map λo=>(o,0,[]))
def zk.t29:IR:=.reg (dA [] 817478833)
def zk.t31:IR:=.seq (.seq zk.t18 (.cond aT12 .skip (.exit 2))) (.seq (.block 3 (.seq (.seq zk.t21 (.cond oD (.seq zk.t22 .ret) .skip)) zk.t26)) zk.t29)
def zk.t32:IR:=.loop zk.t31
def zk.t35:IR:=.reg (dA [] 401081201)
def zk.t43:IR:=.seq zk.t0 (.seq zk.t1 (.seq zk.t2 (.seq (.seq zk.t3 (.block 0 zk.t12)) (.seq zk.t15 (.seq zk.t16 (.seq (.seq zk.t17 (.block 2 zk.t32)) (.seq zk.t35 .ret)))))))
def zk.b0:IR:=zk.t43
def zk.res:List RV:=[.t (.of 2),.t (.of 3)]
def zk:Fn:={ params:=[(.of 0),(.of 1)],res:=zk.res,body:=zk.b0,init:=in14 }
theorem zk.ok:fnA Tryz.prog Tryz.f113 [0,1,4,5,6,7,8,9,10,11,12,18,46,54]=some zk:=by kernel_rfl
abbrev qw.fr:=fr6
def qw.t0:IR:=.reg (dA [] 1277993231838361)
def qw.t1:IR:=.reg (dA [] 1692158381630388688577512638287723)
def qw.t2:IR:=.reg (dA [] 639869753594975578390276148433763)
def qw.t6:IR:=dI [] 2370936584417110427737085384886744787857639773335337499628718146111807371051876277246409007228154423750538217574
def qw.t7:IR:=.seq qw.t6 .ret
def qw.t9:IR:=.seq qw.t0 (.seq (.seq qw.t1 (.cond aT5 (.seq qw.t2 .ret) .skip)) qw.t7)
def qw.b0:IR:=qw.t9
def qw.res:List RV:=[.cell (.of 4) (some 4)]
def qw:Fn:={ params:=[(.of 0),(.of 1)],res:=qw.res,body:=qw.b0,init:=in6 }
theorem qw.ok:fnA Tryz.prog Tryz.f114 [0,1,2,3,4,10]=some qw:=by kernel_rfl
abbrev F115.fr:=fr5
def F115.b0:IR:=dI [] 3177585052488474968553893692896938950465407914324583
def F115.res:List RV:=[.cell (.of 4) (some 4)]
def F115:Fn:={ params:=[(.of 0),(.of 1)],res:=F115.res,body:=F115.b0,init:=in5 }
theorem F115.ok:fnA Tryz.prog Tryz.f115 [0,1,2,3,4]=some F115:=by kernel_rfl
abbrev F116.fr:=fr3
def F116.b0:IR:=dI [] 2452409591148753876126231
def F116.res:List RV:=[.t (.of 2)]
def F116:Fn:={ params:=[(.of 0),(.of 1)],res:=F116.res,body:=F116.b0,init:=in3 }
theorem F116.ok:fnA Tryz.prog Tryz.f116 [0,1,4]=some F116:=by kernel_rfl
abbrev F117.fr:=fr4
def F117.b0:IR:=dI [] 52182649380757207173890128412549174667156511192574195643007
def F117.res:List RV:=[.t (.of 3)]
def F117:Fn:={ params:=[(.of 0),(.of 1)],res:=F117.res,body:=F117.b0,init:=in4 }
theorem F117.ok:fnA Tryz.prog Tryz.f117 [0,1,2,3]=some F117:=by kernel_rfl
abbrev F118.fr:=fr5
def F118.b0:IR:=dI [] 1455989565692952429906369239954962231911
def F118.res:List RV:=[.t (.of 4)]
def F118:Fn:={ params:=[(.of 0),(.of 1)],res:=F118.res,body:=F118.b0,init:=in5 }
theorem F118.ok:fnA Tryz.prog Tryz.f118 [0,1,2,3,4]=some F118:=by kernel_rfl
abbrev fM.fr:=fr5
def fM.t0:IR:=.reg (dA [] 1277993231838361)
def fM.t1:IR:=dI [] 425265893728665885791057685007900261815041043768284117040102636107878
def fM.t3:IR:=.seq fM.t0 (.seq fM.t1 .ret)
def fM.b0:IR:=fM.t3
def fM.res:List RV:=[.cell (.of 4) (some 4)]
def fM:Fn:={ params:=[(.of 0),(.of 1)],res:=fM.res,body:=fM.b0,init:=in5 }
theorem fM.ok:fnA Tryz.prog Tryz.f119 [0,1,2,3,4]=some fM:=by kernel_rfl
abbrev F120.fr:=fr4
def F120.b0:IR:=dI [] 3496490567387993037479017404264704386008091818698012004315548540195455
def F120.res:List RV:=[.cell (.of 2) (some 2)]
def F120:Fn:={ params:=[(.of 0)],res:=F120.res,body:=F120.b0,init:=in4 }
theorem F120.ok:fnA Tryz.prog Tryz.f120 [0,1,2,3]=some F120:=by kernel_rfl
abbrev F121.fr:=fr4
def F121.b0:IR:=dI [] 362174755645591838180414051943652839641703
def F121.res:List RV:=[.t (.of 2),.t (.of 3)]
def F121:Fn:={ params:=[(.of 0)],res:=F121.res,body:=F121.b0,init:=in4 }
theorem F121.ok:fnA Tryz.prog Tryz.f121 [0,1,2,3]=some F121:=by kernel_rfl
abbrev xw.fr:=fr3
def xw.t0:IR:=.reg (dA [] 42202271)
def xw.rQ (r:List RO):List RO:=dA r 192901333481369
def xw.tO:List RO:=xw.rQ []
def xw.rP (r:List RO):List RO:=dA r 17416650185495432342636761574219
def xw.sD:List RO:=xw.rP xw.tO
def xw.t1:IR:=.reg xw.sD
def xw.t3:IR:=.seq xw.t0 (.seq xw.t1 .ret)
def xw.b0:IR:=xw.t3
def xw.res:List RV:=[.t (.of 2)]
def xw:Fn:={ params:=[(.of 0)],res:=xw.res,body:=xw.b0,init:=in3 }
theorem xw.ok:fnA Tryz.prog Tryz.f122 [0,1,2]=some xw:=by kernel_rfl
abbrev zo.fr:=fr14
def zo.t0:IR:=.reg (dA [] 1517566497)
def zo.t1:IR:=.reg (dA [] 8695)
def zo.t2:IR:=.reg (dA [] 723424299941873)
def zo.t7:IR:=.reg (dA [] 480026158644168349108922044862206060265307)
def zo.t8:IR:=.reg [iQo 10 (.mv aT5)]
def zo.t9:IR:=.reg (dA [] 270630897)
def zo.t12:IR:=.reg (dA [] 78034747377)
def zo.zfe (r:List RO):List RO:=dA r 802258445
def zo.r8_1:List RO:=zo.zfe []
def zo.zfd (r:List RO):List RO:=dA r 116942596767191525129186365363546417102771595
def zo.r8_0:List RO:=zo.zfd zo.r8_1
def zo.t13:IR:=.reg zo.r8_0
def zo.t18:IR:=.reg (dA [] 110844276754361066307499)
def zo.t19:IR:=.reg (dA [] 488671413258963)
def zo.t20:IR:=.reg (dA [] 284938746642838198796203)
def zo.t23:IR:=.reg [iQo 13 (.mv aT5)]
def zo.t24:IR:=.reg (dA [] 947216177)
def zo.t27:IR:=.reg (dA [] 841128044378555)
def zo.t29:IR:=.seq (.seq zo.t23 (.cond oD zo.t24 .skip)) (.seq zo.t27 .ret)
def zo.t33:IR:=.seq zo.t12 (.seq (.seq zo.t13 (.cond aT11 (.seq (.reg (dA [] 1517566497)) .ret) .skip)) (.seq zo.t18 (.seq (.seq zo.t19 (.cond aT12 zo.t20 .skip)) zo.t29)))
def zo.t38:IR:=.seq zo.t0 (.seq zo.t1 (.seq (.seq zo.t2 (.cond aT9 (.seq (.reg (dA [] 1517566497)) .ret) .skip)) (.seq zo.t7 (.seq (.seq zo.t8 (.cond aT10 zo.t9 .skip)) zo.t33))))
def zo.b0:IR:=zo.t38
def zo.res:List RV:=[.t (.of 1),.t (.of 2),.t (.of 3)]
def zo:Fn:={ params:=[(.of 0)],res:=zo.res,body:=zo.b0,init:=in14 }
theorem zo.ok:fnA Tryz.prog Tryz.f127 [0,2,3,4,5,6,7,8,9,13,22,35,43,49]=some zo:=by kernel_rfl
abbrev zx.fr:=fr9
def zx.t0:IR:=.reg [iQo 2 (.mv (.c (.str [])))]
def zx.rQ (r:List RO):List RO:=dA r 507386207355547866912268340862783798507
def zx.tO:List RO:=zx.rQ []
def zx.rP (r:List RO):List RO:=dA r 588130921330363907453629514250153867
def zx.sD:List RO:=zx.rP zx.tO
def zx.t1:IR:=.reg zx.sD
def zx.t6:IR:=.reg (dA [] 247237879)
def zx.t10:IR:=.reg (dA [] 778459368106318019207614371)
def zx.t11:IR:=dI [] 165233581574601103611388883302
def zx.t12:IR:=.reg [iQo 4 (.mv (.c (.str [])))]
def zx.t13:IR:=.reg (dA [] 247401975)
def zx.t14:IR:=.reg (dA [] 375621)
def zx.t17:IR:=.reg (dA [] 674883861373981446875772280094603)
def zx.t18:IR:=.reg (dA [] 778538231)
def zx.t19:IR:=.reg (dA [] 317680302967950812524773291)
def zx.t22:IR:=.reg (dA [] 2039)
def zx.t25:IR:=.seq zx.t17 (.seq (.seq zx.t18 (.cond aT8 zx.t19 .skip)) (.seq zx.t22 .ret))
def zx.t29:IR:=.seq zx.t10 (.seq zx.t11 (.seq zx.t12 (.seq (.seq zx.t13 (.cond aT7 zx.t14 .skip)) zx.t25)))
def zx.t32:IR:=.seq zx.t0 (.seq (.seq zx.t1 (.cond aT5 (.seq (.reg (dA [] 8406245064350092084834219)) .ret) .skip)) (.seq (.seq zx.t6 (.cond aT6 (.reg (dA [] 2554417670897627051)) .skip)) zx.t29))
def zx.b0:IR:=zx.t32
def zx.res:List RV:=[.t (.of 2)]
def zx:Fn:={ params:=[(.of 0),(.of 1)],res:=zx.res,body:=zx.b0,init:=in9 }
theorem zx.ok:fnA Tryz.prog Tryz.f128 [0,1,4,5,6,20,27,45,54]=some zx:=by kernel_rfl
abbrev kz.fr:=fr6
def kz.t0:IR:=.reg (dA [] 6284571951)
def kz.t1:IR:=.reg (dA [] 20983)
def kz.t2:IR:=.reg (dA [] 8952601905)
def kz.t3:IR:=.reg (dA [] 122427354177491)
def kz.t4:IR:=.reg (dA [] 1047293200238628377104148923)
def kz.t8:IR:=dI [] 42481397124868706555583629441417475204680648817768156211302
def kz.t13:IR:=.seq kz.t0 (.seq kz.t1 (.seq kz.t2 (.seq (.seq kz.t3 (.cond aT5 (.seq kz.t4 .ret) .skip)) (.seq kz.t8 .ret))))
def kz.b0:IR:=kz.t13
def kz.res:List RV:=[.cell (.of 1) (some 2),.cell (.of 2) (some 2)]
def kz:Fn:={ params:=[(.of 0)],res:=kz.res,body:=kz.b0,init:=in6 }
theorem kz.ok:fnA Tryz.prog Tryz.f129 [0,2,3,4,5,12]=some kz:=by kernel_rfl
abbrev yg.fr:=fr11
def yg.t0:IR:=.reg (dA [] 2025867297156249)
def yg.t1:IR:=.reg (dA [] 185389679)
def yg.t2:IR:=dI [] 412248592094025587097065223206478933350
def yg.t5:IR:=.reg (dA [] 6525365104807916616555)
def yg.t6:IR:=.reg (dA [] 2751802952250185490091243227)
def yg.t7:IR:=.reg (dA [] 2775981468642478073585497819)
def yg.t8:IR:=.reg (dA [] 2279159474073842202055531)
def yg.eX (r:List RO):List RO:=dA r 45980173
def yg.r6_1:List RO:=yg.eX []
def yg.eU (r:List RO):List RO:=dA r 974442763156283815332048262912113035
def yg.om:List RO:=yg.eU yg.r6_1
def yg.t9:IR:=.reg yg.om
def yg.t10:IR:=.reg (dA [] 35191)
def yg.t14:IR:=.reg (dA [] 2706580922602303650958124651498403)
def yg.t15:IR:=.seq yg.t14 .ret
def yg.t20:IR:=.seq yg.t5 (.seq yg.t6 (.seq yg.t7 (.seq yg.t8 (.seq (.seq yg.t9 (.cond aT10 (.seq yg.t10 .ret) .skip)) yg.t15))))
def yg.t22:IR:=.seq yg.t0 (.seq (.seq yg.t1 (.cond aT9 yg.t2 .skip)) yg.t20)
def yg.b0:IR:=yg.t22
def yg.res:List RV:=[.t (.of 4)]
def yg:Fn:={ params:=[(.of 0),(.of 1)],res:=yg.res,body:=yg.b0,init:=in11 }
theorem yg.ok:fnA Tryz.prog Tryz.f130 [0,1,2,3,4,5,6,8,10,12,49]=some yg:=by kernel_rfl
abbrev yu.fr:=fr8
def yu.t0:IR:=.reg (dA [] 7726167199)
def yu.t1:IR:=.reg (dA [] 518251335286195)
def yu.t2:IR:=.reg (dA [] 53893)
def yu.t6:IR:=.reg (dA [] 52874755979533140766544916865742467)
def yu.t7:IR:=.reg (dA [] 1188115016121211)
def yu.t8:IR:=.reg (dA [] 982065143)
def yu.t11:IR:=.reg (dA [] 3323006063188686511466075796493147)
def yu.t13:IR:=.reg (dA [] 280584177)
def yu.t15:IR:=.seq (.seq yu.t8 (.cond aT6 .skip (.exit 0))) (.seq (.block 1 yu.t11) yu.t13)
def yu.t16:IR:=.loop yu.t15
def yu.t19:IR:=.reg (dA [] 118279791)
def yu.t20:IR:=.reg (dA [] 1538846001)
def yu.t24:IR:=.reg (dA [] 311)
def yu.t30:IR:=.seq yu.t0 (.seq (.seq yu.t1 (.cond aT5 (.seq yu.t2 .ret) .skip)) (.seq yu.t6 (.seq (.seq yu.t7 (.block 0 yu.t16)) (.seq (.seq yu.t19 (.cond aT7 (.seq yu.t20 .ret) .skip)) (.seq yu.t24 .ret)))))
def yu.b0:IR:=yu.t30
def yu.res:List RV:=[.t (.of 2)]
def yu:Fn:={ params:=[(.of 0)],res:=yu.res,body:=yu.b0,init:=in8 }
theorem yu.ok:fnA Tryz.prog Tryz.f133 [0,1,2,3,4,8,23,35]=some yu:=by kernel_rfl
abbrev yt.fr:=fr7
def yt.t0:IR:=.reg (dA [] 193837)
def yt.t1:IR:=.reg [iQo 2 (.mv (.c .za))]
def yt.t2:IR:=.reg (dA [] 175500785)
def yt.t3:IR:=.reg (dA [] 492670455)
def yt.t6:IR:=.reg (dA [] 9222548977)
def yt.t7:IR:=.reg (dA [] 494477303)
def yt.t8:IR:=.reg (dA [] 141910001)
def yt.t11:IR:=.reg (dA [] 7583997648567255483)
def yt.t12:IR:=.reg (dA [] 219676093937)
def yt.t13:IR:=.seq yt.t11 yt.t12
def yt.t17:IR:=.seq (.seq yt.t3 (.cond aT5 .skip (.exit 0))) (.block 1 (.seq yt.t6 (.seq (.seq yt.t7 (.cond aT6 yt.t8 .skip)) yt.t13)))
def yt.t18:IR:=.loop yt.t17
def yt.t20:IR:=.reg (dA [] 138565932954445011)
def yt.t21:IR:=.seq yt.t20 .ret
def yt.t25:IR:=.seq yt.t0 (.seq yt.t1 (.seq yt.t2 (.seq (.block 0 yt.t18) yt.t21)))
def yt.b0:IR:=yt.t25
def yt.res:List RV:=[.cell (.of 1) (some 2)]
def yt:Fn:={ params:=[(.of 0)],res:=yt.res,body:=yt.b0,init:=in7 }
theorem yt.ok:fnA Tryz.prog Tryz.f134 [0,2,3,4,5,9,13]=some yt:=by kernel_rfl
abbrev F135.fr:=fr2
def F135.b0:IR:=dI [] 60286714024173777766995756964826705283689154150051791095996837733538551663945879
def F135.res:List RV:=[.t (.of 1)]
def F135:Fn:={ params:=[(.of 0)],res:=F135.res,body:=F135.b0,init:=in2 }
theorem F135.ok:fnA Tryz.prog Tryz.f135 [0,2]=some F135:=by kernel_rfl
abbrev F136.fr:=fr9
def F136.b0:IR:=dI [] 11405910661431908978421344621826073907131932867140868637821529909934585109956371664743147223196742515896283179159
def F136.res:List RV:=[.t (.of 1)]
def F136:Fn:={ params:=[(.of 0)],res:=F136.res,body:=F136.b0,init:=in9 }
theorem F136.ok:fnA Tryz.prog Tryz.f136 [0,2,3,4,7,8,9,10,17]=some F136:=by kernel_rfl
abbrev F137.fr:=fr8
def F137.b0:IR:=dI [] 68676802759883938528988387879651078840968664573215347890682916717272141625201535426454663876515351
def F137.res:List RV:=[.t (.of 2)]
def F137:Fn:={ params:=[(.of 0),(.of 1)],res:=F137.res,body:=F137.b0,init:=in8 }
theorem F137.ok:fnA Tryz.prog Tryz.f137 [0,1,4,5,6,10,11,12]=some F137:=by kernel_rfl
abbrev F138.fr:=fr3
def F138.b0:IR:=dI [] 10894158955212886881715055969145700842007
def F138.res:List RV:=[.t (.of 2)]
def F138:Fn:={ params:=[(.of 0),(.of 1)],res:=F138.res,body:=F138.b0,init:=in3 }
theorem F138.ok:fnA Tryz.prog Tryz.f138 [0,1,3]=some F138:=by kernel_rfl
abbrev F139.fr:=fr10
def F139.b0:IR:=dI [] 1467685333396594537951869901865482354779126272274198490044996413292553502466719427195492214510721722600549842630455935
def F139.res:List RV:=[.t (.of 3)]
def F139:Fn:={ params:=[(.of 0),(.of 1)],res:=F139.res,body:=F139.b0,init:=in10 }
theorem F139.ok:fnA Tryz.prog Tryz.f139 [0,1,2,4,5,7,9,10,11,12]=some F139:=by kernel_rfl
abbrev F140.fr:=fr4
def F140.b0:IR:=dI [] 46283244248327726206017736190630133001043671692887971911504913108332962730295297660981158472979854988054661023453276742892956231346913126930214153149179418484954879395713849264109284907575961197743253717608109305915637748351
def F140.res:List RV:=[.t (.of 2)]
def F140:Fn:={ params:=[(.of 0)],res:=F140.res,body:=F140.b0,init:=in4 }
theorem F140.ok:fnA Tryz.prog Tryz.f140 [0,1,2,28]=some F140:=by kernel_rfl
abbrev F141.fr:=fr1
def F141.b0:IR:=dI [] 579469673717824303556495000580101847395819178257354326745249617075299973605881506396060352447647943905053349400947535682285233185326007621963511368230334530068759436163479
def F141.res:List RV:=[.t (.of 0)]
def F141:Fn:={ params:=[],res:=F141.res,body:=F141.b0,init:=in1 }
theorem F141.ok:fnA Tryz.prog Tryz.f141 [0]=some F141:=by kernel_rfl
abbrev F142.fr:=fr3
def F142.b0:IR:=dI [] 11328893085297543302688502777724758742292631
def F142.res:List RV:=[.t (.of 1)]
def F142:Fn:={ params:=[(.of 0)],res:=F142.res,body:=F142.b0,init:=in3 }
theorem F142.ok:fnA Tryz.prog Tryz.f142 [0,2,4]=some F142:=by kernel_rfl
abbrev F144.fr:=fr4
def F144.b0:IR:=dI [] 25488768398518377009641149602246261283409894479733174911
def F144.res:List RV:=[.t (.of 3)]
def F144:Fn:={ params:=[(.of 0),(.of 1)],res:=F144.res,body:=F144.b0,init:=in4 }
theorem F144.ok:fnA Tryz.prog Tryz.f144 [0,1,2,4]=some F144:=by kernel_rfl
abbrev F145.fr:=fr19
def F145.b0:IR:=dI [] 57271338683408245997912741299277128690372682148865224813645316371554604855120339580081076081997705040751892612131776936394560935646383639410952172954936861730355909910273238852218246724472931462083405046809133203924459163562854627141619476711285113786179307368945361674885051225221027478200237190216545590802948010623
def F145.res:List RV:=[.t (.of 3)]
def F145:Fn:={ params:=[(.of 0),(.of 1)],res:=F145.res,body:=F145.b0,init:=in19 }
theorem F145.ok:fnA Tryz.prog Tryz.f145 [0,1,2,4,5,6,7,8,10,14,15,16,17,22,23,24,25,40,45]=some F145:=by kernel_rfl
abbrev F151.fr:=fr3
def F151.b0:IR:=dI [] 2452409591764480387680791
def F151.res:List RV:=[.t (.of 2)]
def F151:Fn:={ params:=[(.of 0),(.of 1)],res:=F151.res,body:=F151.b0,init:=in3 }
theorem F151.ok:fnA Tryz.prog Tryz.f151 [0,1,4]=some F151:=by kernel_rfl
abbrev F152.fr:=fr19
def F152.b0:IR:=dI [] 5399300263381474650527732392245056014897756747602956433463020581415079996663379335591687663052211164664997767876793537895445205014702467988387289550238845860118965829249664633921217411490894027351827986731034993520118855153489976579190529056626963266170249728572680133685420009567724390785248788802331098074981671334348392624598345898080914568140631706126274999398808369597873311214056631
def F152.res:List RV:=[.cell (.of 2) (some 2)]
def F152:Fn:={ params:=[(.of 0),(.of 1)],res:=F152.res,body:=F152.b0,init:=in19 }
theorem F152.ok:fnA Tryz.prog Tryz.f152 [0,1,4,5,6,7,9,10,11,21,26,27,28,29,35,36,37,41,55]=some F152:=by kernel_rfl
abbrev F153.fr:=fr12
def F153.b0:IR:=dI [] 2481827500158895292021043249630719462218717678058063246181364197853954561357074721395398063005878644954186496029919775444600959185875291639476864941825841686236952837880387348500840816647976276962686135
def F153.res:List RV:=[.cell (.of 2) (some 2)]
def F153:Fn:={ params:=[(.of 0),(.of 1)],res:=F153.res,body:=F153.b0,init:=in12 }
theorem F153.ok:fnA Tryz.prog Tryz.f153 [0,1,4,5,6,8,9,13,14,15,16,27]=some F153:=by kernel_rfl
abbrev F154.fr:=fr9
def F154.b0:IR:=dI [] 3005820066655266021310957960156027929805834586322999012639537769697212913682744371212404809667211965907292312259434885759
def F154.res:List RV:=[.t (.of 3)]
def F154:Fn:={ params:=[(.of 0),(.of 1)],res:=F154.res,body:=F154.b0,init:=in9 }
theorem F154.ok:fnA Tryz.prog Tryz.f154 [0,1,3,4,5,6,7,8,9]=some F154:=by kernel_rfl
abbrev F155.fr:=fr9
def F155.b0:IR:=dI [] 48093121066484256340975327362496446876893352918451940472217204731279414791017754425078016330250609608121306792976825430655
def F155.res:List RV:=[.t (.of 3)]
def F155:Fn:={ params:=[(.of 0),(.of 1)],res:=F155.res,body:=F155.b0,init:=in9 }
theorem F155.ok:fnA Tryz.prog Tryz.f155 [0,1,3,4,5,6,7,8,9]=some F155:=by kernel_rfl
abbrev F168.fr:=fr4
def F168.b0:IR:=dI [] 39987659660794527087542415767111062796897024567864127095755859010620153861118933306665611023480061703809519301247
def F168.res:List RV:=[.t (.of 3)]
def F168:Fn:={ params:=[(.of 0),(.of 1)],res:=F168.res,body:=F168.b0,init:=in4 }
theorem F168.ok:fnA Tryz.prog Tryz.f168 [0,1,2,4]=some F168:=by kernel_rfl
abbrev F169.fr:=fr11
def F169.b0:IR:=dI [] 861730453101600704011865841779000557631311673805294973659060703222234281632290867714095822813072213902601474642990123417496169734098793671011029744515231966801009631086081047986620004643490498028822948570083008052896526742143
def F169.res:List RV:=[.t (.of 3)]
def F169:Fn:={ params:=[(.of 0),(.of 1)],res:=F169.res,body:=F169.b0,init:=in11 }
theorem F169.ok:fnA Tryz.prog Tryz.f169 [0,1,2,4,5,6,7,12,13,14,15]=some F169:=by kernel_rfl
abbrev F170.fr:=fr3
def F170.b0:IR:=dI [] 164829138573007243269335332706455
def F170.res:List RV:=[.t (.of 1)]
def F170:Fn:={ params:=[(.of 0)],res:=F170.res,body:=F170.b0,init:=in3 }
theorem F170.ok:fnA Tryz.prog Tryz.f170 [0,2,3]=some F170:=by kernel_rfl
abbrev F171.fr:=fr3
def F171.b0:IR:=dI [] 155328074701231765488390783
def F171.res:List RV:=[.t (.of 2)]
def F171:Fn:={ params:=[(.of 0)],res:=F171.res,body:=F171.b0,init:=in3 }
theorem F171.ok:fnA Tryz.prog Tryz.f171 [0,1,2]=some F171:=by kernel_rfl
abbrev aG.fr:=fr3
def aG.b0:IR:=dI [] 2452409590884871085459991
def aG.res:List RV:=[.t (.of 2)]
def aG:Fn:={ params:=[(.of 0),(.of 1)],res:=aG.res,body:=aG.b0,init:=in3 }
theorem aG.ok:fnA Tryz.prog Tryz.f173 [0,1,4]=some aG:=by kernel_rfl
abbrev aF.fr:=fr4
def aF.b0:IR:=dI [] 25817794958436224200076040114822813022361239
def aF.res:List RV:=[.t (.of 3)]
def aF:Fn:={ params:=[(.of 0),(.of 1),(.of 2)],res:=aF.res,body:=aF.b0,init:=in4 }
theorem aF.ok:fnA Tryz.prog Tryz.f174 [0,1,2,4]=some aF:=by kernel_rfl
abbrev aD.fr:=fr3
def aD.b0:IR:=dI [] 2452409591957994434169367
def aD.res:List RV:=[.t (.of 2)]
def aD:Fn:={ params:=[(.of 0),(.of 1)],res:=aD.res,body:=aD.b0,init:=in3 }
theorem aD.ok:fnA Tryz.prog Tryz.f175 [0,1,4]=some aD:=by kernel_rfl
abbrev aC.fr:=fr3
def aC.b0:IR:=dI [] 591425223892119554583
def aC.res:List RV:=[.t (.of 2)]
def aC:Fn:={ params:=[(.of 0),(.of 1)],res:=aC.res,body:=aC.b0,init:=in3 }
theorem aC.ok:fnA Tryz.prog Tryz.f176 [0,1,3]=some aC:=by kernel_rfl
abbrev xg.fr:=fr9
def xg.b4:IR:=dI [] 526341752045825909717284070314625299053492346794343977382100748866994595166327
def xg.b3:IR:=(.loop xg.b4)
def xg.g2 (X3:IR):IR:=(.block 0 X3)
def xg.b2:IR:=xg.g2 xg.b3
def xg.b9:IR:=dI [] 310807
def xg.b0:IR:=dI [xg.b2,xg.b9] 64173075976654257887839163312726513515686169111
def xg.res:List RV:=[.t (.of 2)]
def xg:Fn:={ params:=[(.of 0),(.of 1)],res:=xg.res,body:=xg.b0,init:=in9 }
theorem xg.ok:fnA Tryz.prog Tryz.f177 [0,1,4,5,10,12,13,14,24]=some xg:=by kernel_rfl
abbrev F178.fr:=fr9
def F178.b0:IR:=dI [] 733417781048607808170290036770721661972745665988244308724921096777325786374423885360600894460333402862207
def F178.res:List RV:=[.t (.of 3)]
def F178:Fn:={ params:=[(.of 0),(.of 1)],res:=F178.res,body:=F178.b0,init:=in9 }
theorem F178.ok:fnA Tryz.prog Tryz.f178 [0,1,3,4,5,7,8,9,16]=some F178:=by kernel_rfl
abbrev fZ.fr:=fr3
def fZ.t0:IR:=.reg (dA [] 645)
def fZ.t1:IR:=.reg (dA [] 263656237171986363)
def fZ.t3:IR:=.seq fZ.t0 (.seq fZ.t1 .ret)
def fZ.b0:IR:=fZ.t3
def fZ.res:List RV:=[.t (.of 2)]
def fZ:Fn:={ params:=[(.of 0),(.of 1)],res:=fZ.res,body:=fZ.b0,init:=in3 }
theorem fZ.ok:fnA Tryz.prog Tryz.f179 [0,1,4]=some fZ:=by kernel_rfl
abbrev fV.fr:=fr3
def fV.t0:IR:=.reg (dA [] 42202271)
def fV.t1:IR:=.reg (dA [] 130233329809280450601813487503426087872219)
def fV.t3:IR:=.seq fV.t0 (.seq fV.t1 .ret)
def fV.b0:IR:=fV.t3
def fV.res:List RV:=[.t (.of 2)]
def fV:Fn:={ params:=[(.of 0)],res:=fV.res,body:=fV.b0,init:=in3 }
theorem fV.ok:fnA Tryz.prog Tryz.f180 [0,1,2]=some fV:=by kernel_rfl
abbrev ji.fr:=fr9
def ji.t0:IR:=.reg [iQo 1 (.mv (.c .za))]
def ji.t1:IR:=.reg (dA [] 17403008866259)
def ji.t2:IR:=.reg (dA [] 4107853979489)
def ji.t3:IR:=.reg (dA [] 91877149)
def ji.t5:IR:=.reg (dA [] 305113782377930397997496747)
def ji.t6:IR:=.reg (dA [] 66579962271936553757753771)
def ji.t9:IR:=.reg (dA [] 118223583)
def ji.t12:IR:=.seq ji.t3 (.seq (.cond aT8 .skip (.exit 0)) (.seq (.block 1 (.seq ji.t5 ji.t6)) ji.t9))
def ji.t13:IR:=.loop ji.t12
def ji.t16:IR:=.reg (dA [] 4151)
def ji.t20:IR:=.seq ji.t0 (.seq ji.t1 (.seq (.seq ji.t2 (.block 0 ji.t13)) (.seq ji.t16 .ret)))
def ji.b0:IR:=ji.t20
def ji.res:List RV:=[.t (.of 1)]
def ji:Fn:={ params:=[(.of 0)],res:=ji.res,body:=ji.b0,init:=in9 }
theorem ji.ok:fnA Tryz.prog Tryz.f181 [0,2,3,4,5,9,10,11,12]=some ji:=by kernel_rfl
abbrev F182.fr:=fr3
def F182.b0:IR:=dI [] 2452409591993178806258199
def F182.res:List RV:=[.t (.of 2)]
def F182:Fn:={ params:=[(.of 0),(.of 1)],res:=F182.res,body:=F182.b0,init:=in3 }
theorem F182.ok:fnA Tryz.prog Tryz.f182 [0,1,4]=some F182:=by kernel_rfl
abbrev F183.fr:=fr2
def F183.b0:IR:=dI [] 2455821648289706772261015
def F183.res:List RV:=[.t (.of 1)]
def F183:Fn:={ params:=[(.of 0)],res:=F183.res,body:=F183.b0,init:=in2 }
theorem F183.ok:fnA Tryz.prog Tryz.f183 [0,2]=some F183:=by kernel_rfl
abbrev xh.fr:=fr8
def xh.b3:IR:=dI [] 4563489048927350148231990751720621930657784725735389109286855799
def xh.b2:IR:=(.loop xh.b3)
def xh.g1 (X2:IR):IR:=(.block 0 X2)
def xh.b1:IR:=xh.g1 xh.b2
def xh.b8:IR:=dI [] 1340951
def xh.b0:IR:=dI [xh.b1,xh.b8] 103677204460129450519
def xh.res:List RV:=[.t (.of 2)]
def xh:Fn:={ params:=[(.of 0),(.of 1)],res:=xh.res,body:=xh.b0,init:=in8 }
theorem xh.ok:fnA Tryz.prog Tryz.f184 [0,1,4,5,7,8,9,16]=some xh:=by kernel_rfl
abbrev F185.fr:=fr3
def F185.b0:IR:=dI [] 1215379585255932459190807
def F185.res:List RV:=[.t (.of 2)]
def F185:Fn:={ params:=[(.of 0),(.of 1)],res:=F185.res,body:=F185.b0,init:=in3 }
theorem F185.ok:fnA Tryz.prog Tryz.f185 [0,1,3]=some F185:=by kernel_rfl
abbrev fA.fr:=fr3
def fA.t0:IR:=.reg (dA [] 5052822687)
def fA.t1:IR:=dI [] 43415798408797234879589709414
def fA.t3:IR:=.seq fA.t0 (.seq fA.t1 .ret)
def fA.b0:IR:=fA.t3
def fA.res:List RV:=[.cell (.of 2) (some 4)]
def fA:Fn:={ params:=[(.of 0)],res:=fA.res,body:=fA.b0,init:=in3 }
theorem fA.ok:fnA Tryz.prog Tryz.f186 [0,1,2]=some fA:=by kernel_rfl
abbrev fq.fr:=fr2
def fq.t0:IR:=.reg (dA [] 29997)
def fq.t1:IR:=.reg (dA [] 1057193854449)
def fq.t3:IR:=.seq fq.t0 (.seq fq.t1 .ret)
def fq.b0:IR:=fq.t3
def fq.res:List RV:=[.cell (.of 1) (some 2)]
def fq:Fn:={ params:=[(.of 0)],res:=fq.res,body:=fq.b0,init:=in2 }
theorem fq.ok:fnA Tryz.prog Tryz.f187 [0,2]=some fq:=by kernel_rfl
abbrev bg.fr:=fr18
def bg.t0:IR:=.reg (dA [] 7726167199)
def bg.t1:IR:=.reg (dA [] 3075673661289)
def bg.t2:IR:=.reg (dA [] 1508034689459)
def bg.t60:IR:=.seq bg.t0 (.seq (.seq bg.t1 (.cond aT12 (.seq bg.t2 .ret) .skip)) (.seq (.reg (dA [] 19425519329284110020451)) (.seq (.reg (dA [] 98025603727119)) (iSr [(iQo 6 (.mv (.c .za)))] (.seq (.block 0 (.loop (.seq (.seq (.reg (dA [] 501597646833)) (.cond oD .skip (.exit 0))) (.block 1 (.seq (.reg (dA [] 36414308470309850927579019)) (.seq (.reg (dA [] 431813)) (.seq (.seq (.reg (dA [] 2006137264497)) (.cond aT14 (.reg (dA [] 1635409575193461181371)) .skip)) (.seq (.seq (.reg (dA [] 1003873939249)) (.cond aT15 (.reg (dA [] 114374853512564030149919796522097571)) .skip)) (.seq (.reg (dA [] 85515933965460327601595)) (.reg (dA [] 18231))))))))))) (.seq (.reg (dA [] 31925549)) (.seq (.seq (.reg (dA [] 39653)) (.cond aT16 (.reg (dA [] 788017182653)) .skip)) (.seq (.seq (.reg (dA [] 2136523057875)) (.block 2 (.loop (.seq (.seq (.reg (dA [] 15710697015)) (.cond aT17 .skip (.exit 2))) (.seq (.block 3 (.reg (dA [] 117525354204089128379))) (.reg (dA [] 8345794097))))))) (.seq (.reg (dA [] 426507199)) .ret)))))))))
def bg.b0:IR:=bg.t60
def bg.res:List RV:=[.t (.of 2)]
def bg:Fn:={ params:=[(.of 0)],res:=bg.res,body:=bg.b0,init:=in18 }
theorem bg.ok:fnA Tryz.prog Tryz.f188 [0,1,2,3,4,5,6,7,8,9,10,11,14,26,35,42,54,60]=some bg:=by kernel_rfl
abbrev uw.fr:=fr4
def uw.t0:IR:=.reg [iQo 1 (.mv (.c (.str [])))]
def uw.t1:IR:=.reg (dA [] 64737337400817)
def uw.t2:IR:=.reg (dA [] 68206065)
def uw.t6:IR:=.reg (dA [] 259110377348593)
def uw.t7:IR:=.reg (dA [] 4599)
def uw.t11:IR:=.reg (dA [] 18718715377)
def uw.t15:IR:=.seq uw.t0 (.seq (.seq uw.t1 (.cond aT2 (.seq uw.t2 .ret) .skip)) (.seq (.seq uw.t6 (.cond aT3 (.seq uw.t7 .ret) .skip)) (.seq uw.t11 .ret)))
def uw.b0:IR:=uw.t15
def uw.res:List RV:=[.t (.of 1)]
def uw:Fn:={ params:=[(.of 0)],res:=uw.res,body:=uw.b0,init:=in4 }
theorem uw.ok:fnA Tryz.prog Tryz.f189 [0,2,5,10]=some uw:=by kernel_rfl
abbrev ze.fr:=fr19
def ze.t0:IR:=.reg (dA [] 11540007)
def ze.t1:IR:=.reg (dA [] 219412553201)
def ze.t2:IR:=.reg [iQo 3 (.mv (.c .za))]
def ze.t3:IR:=.reg [iQo 4 (.mv aC0)]
def ze.zfh (r:List RO):List RO:=dA r 3705313830731708593968350426246110908628683
def ze.r4_1:List RO:=ze.zfh []
def ze.zfg (r:List RO):List RO:=dA r 92507338737
def ze.r4_0:List RO:=ze.zfg ze.r4_1
def ze.t4:IR:=.reg ze.r4_0
def ze.t5:IR:=.cond aT12 .skip (.exit 0)
def ze.t7:IR:=.reg (dA [] 5788977)
def ze.zfi (r:List RO):List RO:=dA r 169430541
def ze.r6_2:List RO:=ze.zfi []
def ze.eX (r:List RO):List RO:=dA r 210929428893685875577306779638021499
def ze.r6_1:List RO:=ze.eX ze.r6_2
def ze.eU (r:List RO):List RO:=dA r 305540847913541133701932365707
def ze.om:List RO:=ze.eU ze.r6_1
def ze.t8:IR:=.reg ze.om
def ze.t11:IR:=.reg (dA [] 744283889)
def ze.t13:IR:=.seq (.seq ze.t8 (.cond oD .skip (.exit 2))) (.block 3 ze.t11)
def ze.t14:IR:=.loop ze.t13
def ze.t16:IR:=.reg (dA [] 122145000119251)
def ze.t19:IR:=.reg (dA [] 4740401)
def ze.t20:IR:=dI [] 181197323482904530278244216423969354165349339287554832293779155678054
def ze.t21:IR:=.reg (dA [] 4358894751216339024044466011)
def ze.t22:IR:=.reg [iQo 8 (.mv aC0)]
def ze.t23:IR:=.reg (dA [] 96798250739533877300131)
def ze.t26:IR:=dI [] 5799698768393127405137402315289387124514147573071288462363190063974
def ze.t28:IR:=.reg (dA [] 2025437553)
def ze.t30:IR:=.seq (.seq ze.t23 (.cond aT15 .skip (.exit 4))) (.seq (.block 5 ze.t26) ze.t28)
def ze.t31:IR:=.loop ze.t30
def ze.t34:IR:=.reg [iQo 9 (.mv aC0)]
def ze.t35:IR:=.reg (dA [] 122793965358547)
def ze.t38:IR:=.reg (dA [] 1806770422392816521099)
def ze.t39:IR:=.reg (dA [] 120958969681187599074239894461347)
def ze.t42:IR:=.reg [iQo 11 (.mv aC0)]
def ze.t43:IR:=.reg (dA [] 193402810666293542203811)
def ze.t46:IR:=dI [] 4041757886806789719119133710802677707769072198660046130689155441410229222392903903180185274354018002493440870
def ze.t48:IR:=.reg (dA [] 4172920369)
def ze.t50:IR:=.seq (.seq ze.t43 (.cond aT18 .skip (.exit 8))) (.seq (.block 9 ze.t46) ze.t48)
def ze.t51:IR:=.loop ze.t50
def ze.t57:IR:=.reg (dA [] 2964960113)
def ze.t59:IR:=.seq (.seq ze.t35 (.cond aT16 .skip (.exit 6))) (.seq (.block 7 (.seq ze.t38 (.seq (.seq ze.t39 (.cond aT17 (.exit 7) .skip)) (.seq ze.t42 (.block 8 ze.t51))))) ze.t57)
def ze.t60:IR:=.loop ze.t59
def ze.t63:IR:=.reg (dA [] 745453760596949322171)
def ze.t69:IR:=.seq (.seq ze.t16 (.cond aT14 (.exit 1) .skip)) (.seq ze.t19 (.seq ze.t20 (.seq ze.t21 (.seq (.seq ze.t22 (.block 4 ze.t31)) (.seq (.seq ze.t34 (.block 6 ze.t60)) ze.t63)))))
def ze.t73:IR:=.reg (dA [] 140304369)
def ze.t74:IR:=.seq (.block 1 (.seq ze.t7 (.seq (.block 2 ze.t14) ze.t69))) ze.t73
def ze.t75:IR:=.seq (.seq ze.t4 ze.t5) ze.t74
def ze.t76:IR:=.loop ze.t75
def ze.t79:IR:=.reg (dA [] 3536226746683936675)
def ze.t80:IR:=.seq ze.t79 .ret
def ze.t84:IR:=.seq ze.t0 (.seq ze.t1 (.seq ze.t2 (.seq (.seq ze.t3 (.block 0 ze.t76)) ze.t80)))
def ze.b0:IR:=ze.t84
def ze.res:List RV:=[.t (.of 1),.t (.of 2)]
def ze:Fn:={ params:=[(.of 0)],res:=ze.res,body:=ze.b0,init:=in19 }
theorem ze.ok:fnA Tryz.prog Tryz.f190 [0,2,3,4,5,6,7,8,9,10,11,12,25,43,49,80,101,117,124]=some ze:=by kernel_rfl
abbrev fO.fr:=fr5
def fO.t0:IR:=.reg (dA [] 1277993231838361)
def fO.t1:IR:=dI [] 2559476231392173833815181598256998
def fO.t3:IR:=.seq fO.t0 (.seq fO.t1 .ret)
def fO.b0:IR:=fO.t3
def fO.res:List RV:=[.cell (.of 4) (some 4)]
def fO:Fn:={ params:=[(.of 0),(.of 1)],res:=fO.res,body:=fO.b0,init:=in5 }
theorem fO.ok:fnA Tryz.prog Tryz.f192 [0,1,2,3,4]=some fO:=by kernel_rfl
abbrev mq.fr:=fr6
def mq.t0:IR:=.reg (dA [] 1831597215)
def mq.t1:IR:=.reg (dA [] 908818984341461257336599625910284254027)
def mq.t2:IR:=.reg (dA [] 7803423187579859835)
def mq.t11:IR:=.seq mq.t0 (.seq (.seq mq.t1 (.cond aT5 (.seq mq.t2 .ret) .skip)) (.seq (.reg (dA [] 19425519329284110020451)) (.seq (.reg (dA [] 124844215434153961915)) .ret)))
def mq.b0:IR:=mq.t11
def mq.res:List RV:=[.cell (.of 2) (some 2)]
def mq:Fn:={ params:=[(.of 0)],res:=mq.res,body:=mq.b0,init:=in6 }
theorem mq.ok:fnA Tryz.prog Tryz.f193 [0,1,2,3,4,12]=some mq:=by kernel_rfl
abbrev fH.fr:=fr3
def fH.t0:IR:=.reg (dA [] 243528863)
def fH.t1:IR:=.reg (dA [] 820258028188866605947)
def fH.t3:IR:=.seq fH.t0 (.seq fH.t1 .ret)
def fH.b0:IR:=fH.t3
def fH.res:List RV:=[.t (.of 2)]
def fH:Fn:={ params:=[(.of 0)],res:=fH.res,body:=fH.b0,init:=in3 }
theorem fH.ok:fnA Tryz.prog Tryz.f194 [0,1,2]=some fH:=by kernel_rfl
abbrev jm.fr:=fr8
def jm.t0:IR:=.reg (dA [] 1277993231838361)
def jm.t1:IR:=.reg (dA [] 16591859731615209)
def jm.t2:IR:=dI [] 412248592094025228197201829064327687526
def jm.t5:IR:=.reg (dA [] 14204190950780020110808051738979679051)
def jm.t6:IR:=.reg (dA [] 148981296984874567350195)
def jm.t10:IR:=.reg (dA [] 269310595671347074586668923)
def jm.t11:IR:=dI [] 48347145441651807217302265427541937555705447806090996070
def jm.t13:IR:=.seq jm.t10 (.seq jm.t11 .ret)
def jm.t14:IR:=.seq (.seq jm.t5 (.cond aT7 (.seq jm.t6 .ret) .skip)) jm.t13
def jm.t16:IR:=.seq jm.t0 (.seq (.seq jm.t1 (.cond aT6 jm.t2 .skip)) jm.t14)
def jm.b0:IR:=jm.t16
def jm.res:List RV:=[.cell (.of 4) (some 4)]
def jm:Fn:={ params:=[(.of 0),(.of 1)],res:=jm.res,body:=jm.b0,init:=in8 }
theorem jm.ok:fnA Tryz.prog Tryz.f195 [0,1,2,3,4,5,8,20]=some jm:=by kernel_rfl
abbrev vz.fr:=fr3
def vz.t0:IR:=.reg [iQo 1 (.mv aC0)]
def vz.t1:IR:=.reg (dA [] 15804552689)
def vz.t6:IR:=.reg (dA [] 2291359756219)
def vz.t9:IR:=.seq vz.t0 (.seq (.seq vz.t1 (.cond aT2 (iSr [iQo 1 (.mv aC0)] .ret) .skip)) (.seq vz.t6 .ret))
def vz.b0:IR:=vz.t9
def vz.res:List RV:=[.t (.of 1)]
def vz:Fn:={ params:=[(.of 0)],res:=vz.res,body:=vz.b0,init:=in3 }
theorem vz.ok:fnA Tryz.prog Tryz.f196 [0,2,5]=some vz:=by kernel_rfl
abbrev qm.fr:=fr14
def qm.t0:IR:=.reg (dA [] 433568301706393)
def qm.t1:IR:=.reg (dA [] 227033268364245822886092986062034713419)
def qm.t2:IR:=.reg (dA [] 199103401613464427)
def qm.t3:IR:=.reg (dA [] 1720811903651104788831154698123)
def qm.t4:IR:=.reg (dA [] 17507550498545)
def qm.t30:IR:=.seq qm.t0 (.seq (.seq qm.t1 (.cond aT10 (.seq qm.t2 (.seq qm.t3 (.cond aT11 (.seq qm.t4 .ret) .skip))) .skip)) (.seq (.reg (dA [] 265505085272569528479587)) (.seq (.reg (dA [] 833185187396907270041443)) (.seq (.block 0 (.seq (.reg (dA [] 15452267203283)) (.cond aT12 (.seq (.reg (dA [] 315387815637516600145937536427)) .ret) (.seq (.reg (dA [] 177353318761898949051)) (.cond oD (.seq (.reg (dA [] 315387815637516600695693350315)) .ret) .skip))))) (.seq (.reg (dA [] 630775631275033201394318789547)) .ret)))))
def qm.b0:IR:=qm.t30
def qm.res:List RV:=[.cell (.of 4) (some 2)]
def qm:Fn:={ params:=[(.of 0),(.of 1)],res:=qm.res,body:=qm.b0,init:=in14 }
theorem qm.ok:fnA Tryz.prog Tryz.f197 [0,1,2,3,4,5,6,7,8,9,17,30,43,52]=some qm:=by kernel_rfl
abbrev gy.fr:=fr14
def gy.t0:IR:=.reg (dA [] 433568301706393)
def gy.t1:IR:=.reg (dA [] 454258563487446949565844566421364554571)
def gy.t2:IR:=dI [] 1726817494359153605233243004606302955620922094489548902
def gy.t3:IR:=.reg (dA [] 844552854676187847189201688393643)
def gy.t4:IR:=.reg (dA [] 1699794854202420942535005027)
def gy.t5:IR:=.reg (dA [] 2349823650640600749499)
def gy.t9:IR:=.reg (dA [] 286843707344153299)
def gy.t24:IR:=.seq gy.t0 (.seq (.seq gy.t1 (.cond aT11 (.seq gy.t2 (.seq gy.t3 (.cond aT12 (.seq (.seq gy.t4 (.cond oD (.seq gy.t5 .ret) .skip)) (.seq gy.t9 .ret)) .skip))) .skip)) (.seq (.reg (dA [] 284486784924416657092451)) (.seq (.reg (dA [] 228851404798108649549667)) (.seq (.reg (dA [] 42330636053750349818506104160500038027)) .ret))))
def gy.b0:IR:=gy.t24
def gy.res:List RV:=[.cell (.of 4) (some 2)]
def gy:Fn:={ params:=[(.of 0),(.of 1)],res:=gy.res,body:=gy.b0,init:=in14 }
theorem gy.ok:fnA Tryz.prog Tryz.f198 [0,1,2,3,4,5,6,7,8,9,10,18,34,41]=some gy:=by kernel_rfl
abbrev F199.fr:=fr8
def F199.b0:IR:=dI [] 83360782948835205545305549871606767210073333743151299718644296448962094345424402088132049431
def F199.res:List RV:=[.t (.of 2)]
def F199:Fn:={ params:=[(.of 0),(.of 1)],res:=F199.res,body:=F199.b0,init:=in8 }
theorem F199.ok:fnA Tryz.prog Tryz.f199 [0,1,4,5,7,8,9,16]=some F199:=by kernel_rfl
abbrev F200.fr:=fr5
def F200.b0:IR:=dI [] 1926894163500944244452897121256465506692597451819362237484895885724356771239146087
def F200.res:List RV:=[.t (.of 4)]
def F200:Fn:={ params:=[(.of 0),(.of 1)],res:=F200.res,body:=F200.b0,init:=in5 }
theorem F200.ok:fnA Tryz.prog Tryz.f200 [0,1,2,3,4]=some F200:=by kernel_rfl
abbrev jr.fr:=fr18
def jr.t0:IR:=.reg (dA [] 69920118488133775987)
def jr.rQ (r:List RO):List RO:=dA r 211667220607652917615805554363
def jr.tO:List RO:=jr.rQ []
def jr.rP (r:List RO):List RO:=dA r 7098282548981252623525005704950463307
def jr.sD:List RO:=jr.rP jr.tO
def jr.t1:IR:=.reg jr.sD
def jr.t2:IR:=dI [] 5009577260898004430487301222094524922737571942
def jr.t3:IR:=.reg (dA [] 3956743991)
def jr.t4:IR:=dI [] 8911795196691529802242156835174
def jr.t7:IR:=.reg (dA [] 8617936308192399407789921707)
def jr.t29:IR:=.seq jr.t0 (.seq (.seq jr.t1 (.cond aT15 (.seq jr.t2 (.seq (.seq jr.t3 (.cond aT16 jr.t4 .skip)) (.seq jr.t7 .ret))) .skip)) (.seq (.reg (dA [] 833185187396907269910371)) (.seq (.reg (dA [] 120486006737101888581475)) (.seq (.reg (dA [] 272906121128644863637265291)) (.seq (.reg (dA [] 2615412472503398268447992193363252478428911268960003)) (.seq (.seq (.reg (dA [] 2123134233252134377)) (.cond aT17 (.rq [] [((.s (.zm 2 oD)),1,[]),((.s (.zm 2 aT14)),2,[]),((.s (.zm 2 aT3)),2,[]),((iCa 187 [aC1]),0,[]),((iCa 266 [aS3,aS0]),0,[]),((iCa 197 [aS3,aS2]),0,[]),((.w .none none (.store 2 oD aS1)),0,[]),((.w .none none (.store 2 aT14 aS0)),0,[])]) .skip)) (.seq (.rq [] [((.s (.zm 2 oD)),0,[]),((.s (.zm 2 aT14)),1,[]),((.w .none none (.store 2 aT4 aS1)),0,[]),((.w .none none (.store 2 aT5 aS0)),0,[])]) .ret)))))))
def jr.b0:IR:=jr.t29
def jr.res:List RV:=[.cell (.of 4) (some 2),.cell (.of 5) (some 2)]
def jr:Fn:={ params:=[(.of 0),(.of 1)],res:=jr.res,body:=jr.b0,init:=in18 }
theorem jr.ok:fnA Tryz.prog Tryz.f201 [0,1,2,3,4,5,6,7,8,9,11,12,13,14,15,28,40,75]=some jr:=by kernel_rfl
abbrev cO.fr:=fr4
def cO.t0:IR:=.reg [iQo 1 (.mv (.c (.str [])))]
def cO.t1:IR:=.reg (dA [] 6441430691392169562814577096232132443)
def cO.t2:IR:=.reg (dA [] 148514040010061747)
def cO.t5:IR:=.seq cO.t0 (.seq cO.t1 (.seq cO.t2 .ret))
def cO.b0:IR:=cO.t5
def cO.res:List RV:=[.t (.of 1)]
def cO:Fn:={ params:=[(.of 0)],res:=cO.res,body:=cO.b0,init:=in4 }
theorem cO.ok:fnA Tryz.prog Tryz.f203 [0,2,3,4]=some cO:=by kernel_rfl
abbrev yw.fr:=fr6
def yw.t0:IR:=.reg (dA [] 193837)
def yw.t1:IR:=.reg (dA [] 227146504871748138122612615807929933659)
def yw.t2:IR:=.reg [iQo 4 (.mv aT2)]
def yw.t3:IR:=.reg (dA [] 3423649265)
def yw.t6:IR:=.reg [iQo 3 (.mv (.c .za))]
def yw.t7:IR:=.reg (dA [] 12012322405873)
def yw.t10:IR:=.reg (dA [] 113764051009292091365223401662709609001882371)
def yw.t11:IR:=.reg (dA [] 15114093770965503168427)
def yw.t14:IR:=.seq (.seq yw.t7 (.cond aT5 .skip (.exit 0))) (.block 1 (.seq yw.t10 yw.t11))
def yw.t15:IR:=.loop yw.t14
def yw.t17:IR:=.reg (dA [] 10469877004682079347806870220161006485899)
def yw.t20:IR:=.seq yw.t6 (.seq (.block 0 yw.t15) (.seq yw.t17 .ret))
def yw.t23:IR:=.seq yw.t0 (.seq yw.t1 (.seq (.seq yw.t2 (.cond aT4 yw.t3 .skip)) yw.t20))
def yw.b0:IR:=yw.t23
def yw.res:List RV:=[.cell (.of 1) (some 2)]
def yw:Fn:={ params:=[(.of 0)],res:=yw.res,body:=yw.b0,init:=in6 }
theorem yw.ok:fnA Tryz.prog Tryz.f205 [0,2,3,4,13,18]=some yw:=by kernel_rfl
abbrev jl.fr:=fr5
def jl.t0:IR:=.reg [iQo 1 (.mv aC0)]
def jl.t1:IR:=.reg [iQo 2 (.mv aC0)]
def jl.t2:IR:=.reg (dA [] 15343426461907)
def jl.t5:IR:=.reg (dA [] 274348230530590675)
def jl.t6:IR:=.reg (dA [] 4151)
def jl.t11:IR:=.reg (dA [] 3042353)
def jl.t13:IR:=.seq (.seq jl.t2 (.cond aT3 .skip (.exit 0))) (.seq (.block 1 (.seq jl.t5 (.cond aT4 (.seq jl.t6 .ret) .skip))) jl.t11)
def jl.t14:IR:=.loop jl.t13
def jl.t17:IR:=.reg (dA [] 4570609)
def jl.t20:IR:=.seq jl.t0 (.seq (.seq jl.t1 (.block 0 jl.t14)) (.seq jl.t17 .ret))
def jl.b0:IR:=jl.t20
def jl.res:List RV:=[.t (.of 1)]
def jl:Fn:={ params:=[(.of 0)],res:=jl.res,body:=jl.b0,init:=in5 }
theorem jl.ok:fnA Tryz.prog Tryz.f206 [0,2,3,7,13]=some jl:=by kernel_rfl
abbrev uj.fr:=fr5
def uj.t0:IR:=.reg [iQo 2 (.mv (.c .za))]
def uj.t1:IR:=.reg (dA [] 31348643057)
def uj.t4:IR:=.reg (dA [] 1097690189587512363831179)
def uj.t5:IR:=.reg (dA [] 9099699155)
def uj.t8:IR:=.seq (.seq uj.t1 (.cond aT4 .skip (.exit 0))) (.block 1 (.seq uj.t4 uj.t5))
def uj.t9:IR:=.loop uj.t8
def uj.t11:IR:=.reg (dA [] 503)
def uj.t14:IR:=.seq uj.t0 (.seq (.block 0 uj.t9) (.seq uj.t11 .ret))
def uj.b0:IR:=uj.t14
def uj.res:List RV:=[.t (.of 2)]
def uj:Fn:={ params:=[(.of 0),(.of 1)],res:=uj.res,body:=uj.b0,init:=in5 }
theorem uj.ok:fnA Tryz.prog Tryz.f208 [0,1,4,6,9]=some uj:=by kernel_rfl
end
end Go.Ev
