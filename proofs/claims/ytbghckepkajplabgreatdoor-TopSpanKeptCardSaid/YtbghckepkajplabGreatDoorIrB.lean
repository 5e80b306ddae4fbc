import Derived.Test.YtbghckepkajplabGreatDoorIrA
import Derived.Test.YtbghckepkajplabGreatDoorEvC
import Derived.Test.YtbghckepkajplabGreatDoorProg
import Derived.KernelRfl
set_option linter.unusedSimpArgs false
set_option linter.unusedVariables false
namespace Go.Ev
open Go Go.Proofs
set_option maxRecDepth 100000
noncomputable section

abbrev F71.fr:=fr9
def F71.t0:IR:=.reg [iQo 1 (.mv (.c .zb))]
def F71.t1:IR:=.reg (dA [] 1982629841513441)
def F71.t2:IR:=.reg (dA [] 816980897542)
def F71.t3:IR:=.reg (dA [] 7535709)
def F71.t5:IR:=.reg (dA [] 69530225695601029030425306)
def F71.t6:IR:=.reg (dA [] 129976560768304465262243034)
def F71.t9:IR:=.reg (dA [] 59237788)
def F71.t12:IR:=.seq F71.t3 (.seq (.cond aT8 .skip (.exit 0)) (.seq (.block 1 (.seq F71.t5 F71.t6)) F71.t9))
def F71.t13:IR:=.loop F71.t12
def F71.t16:IR:=.reg (dA [] 22936)
def F71.t20:IR:=.seq F71.t0 (.seq F71.t1 (.seq (.seq F71.t2 (.block 0 F71.t13)) (.seq F71.t16 .ret)))
def F71.b0:IR:=F71.t20
def F71.res:List RV:=[.t (.of 1)]
def F71:Fn:={ params:=[(.of 0)],res:=F71.res,body:=F71.b0,init:=in9 }
theorem F71.ok:fnA Tryz.prog Tryz.f71 [0,2,3,4,5,9,10,11,12]=some F71:=by kernel_rfl
abbrev F72.fr:=fr9
def F72.t0:IR:=.reg [iQo 2 (.mv (.c .zb))]
def F72.t1:IR:=.reg (dA [] 4640994806)
def F72.t2:IR:=.reg (dA [] 816980895494)
def F72.t3:IR:=.reg (dA [] 7535709)
def F72.t5:IR:=.reg (dA [] 2279989070)
def F72.t6:IR:=.reg (dA [] 2024750150150599129721561)
def F72.t9:IR:=.reg (dA [] 59237788)
def F72.t12:IR:=.seq F72.t3 (.seq (.cond aT8 .skip (.exit 0)) (.seq (.block 1 (.seq F72.t5 F72.t6)) F72.t9))
def F72.t13:IR:=.loop F72.t12
def F72.t16:IR:=.reg (dA [] 14680)
def F72.t20:IR:=.seq F72.t0 (.seq F72.t1 (.seq (.seq F72.t2 (.block 0 F72.t13)) (.seq F72.t16 .ret)))
def F72.b0:IR:=F72.t20
def F72.res:List RV:=[.t (.of 2)]
def F72:Fn:={ params:=[(.of 0),(.of 1)],res:=F72.res,body:=F72.b0,init:=in9 }
theorem F72.ok:fnA Tryz.prog Tryz.f72 [0,1,4,5,7,10,11,12,13]=some F72:=by kernel_rfl
abbrev F73.fr:=fr11
def F73.t0:IR:=.reg (dA [] 261581)
def F73.t1:IR:=.reg (dA [] 1615039198118)
def F73.t2:IR:=.reg (dA [] 311948125)
def F73.t4:IR:=.reg (dA [] 17268432483510706079951113178)
def F73.t5:IR:=.reg (dA [] 99472444106930446)
def F73.t6:IR:=dI [] 94380232844884733732522604269499583402159877228656770870779013657235833
def F73.t11:IR:=.reg (dA [] 101685148)
def F73.t14:IR:=.seq F73.t2 (.seq (.cond aT9 .skip (.exit 0)) (.seq (.block 1 (.seq F73.t4 (.seq F73.t5 (.cond aT10 F73.t6 .skip)))) F73.t11))
def F73.t15:IR:=.loop F73.t14
def F73.t18:IR:=.seq F73.t0 (.seq F73.t1 (.block 0 F73.t15))
def F73.b0:IR:=F73.t18
def F73.res:List RV:=[]
def F73:Fn:={ params:=[(.of 0),(.of 1),(.of 2)],res:=F73.res,body:=F73.b0,init:=in11 }
theorem F73.ok:fnA Tryz.prog Tryz.f73 [0,1,2,4,6,7,8,9,10,11,17]=some F73:=by kernel_rfl
abbrev F74.fr:=fr2
def F74.t0:IR:=.reg (dA [] 91613)
def F74.t1:IR:=.reg (dA [] 143834452789856037857)
def F74.t3:IR:=.seq F74.t0 (.seq F74.t1 .ret)
def F74.b0:IR:=F74.t3
def F74.res:List RV:=[.cell (.of 1) (some 4)]
def F74:Fn:={ params:=[(.of 0)],res:=F74.res,body:=F74.b0,init:=in2 }
theorem F74.ok:fnA Tryz.prog Tryz.f74 [0,2]=some F74:=by kernel_rfl
abbrev F75.fr:=fr3
def F75.t0:IR:=.reg (dA [] 99742436)
def F75.t1:IR:=.reg (dA [] 498364337658961)
def F75.t3:IR:=.seq F75.t0 (.seq F75.t1 .ret)
def F75.b0:IR:=F75.t3
def F75.res:List RV:=[.t (.of 2)]
def F75:Fn:={ params:=[(.of 0)],res:=F75.res,body:=F75.b0,init:=in3 }
theorem F75.ok:fnA Tryz.prog Tryz.f75 [0,1,2]=some F75:=by kernel_rfl
abbrev F76.fr:=oI
def F76.t0:IR:=.reg (dA [] 128461)
def F76.t1:IR:=.reg (dA [] 816980897542)
def F76.t2:IR:=.reg (dA [] 7535709)
def F76.t4:IR:=.reg (dA [] 69530225695601029030425306)
def F76.t5:IR:=.reg (dA [] 49709833774184718)
def F76.t6:IR:=.reg (dA [] 8696219270613781006082189923542994)
def F76.t11:IR:=.reg (dA [] 59237788)
def F76.t14:IR:=.seq F76.t2 (.seq (.cond aT8 .skip (.exit 0)) (.seq (.block 1 (.seq F76.t4 (.seq F76.t5 (.cond aT9 F76.t6 .skip)))) F76.t11))
def F76.t15:IR:=.loop F76.t14
def F76.t18:IR:=.seq F76.t0 (.seq F76.t1 (.block 0 F76.t15))
def F76.b0:IR:=F76.t18
def F76.res:List RV:=[]
def F76:Fn:={ params:=[(.of 0),(.of 1)],res:=F76.res,body:=F76.b0,init:=o9 }
theorem F76.ok:fnA Tryz.prog Tryz.f76 [0,1,3,4,5,6,7,8,9,15]=some F76:=by kernel_rfl
abbrev F77.fr:=fr3
def F77.t0:IR:=.reg (dA [] 3136156388)
def F77.t1:IR:=.reg (dA [] 498991918985488801282192570)
def F77.t3:IR:=.seq F77.t0 (.seq F77.t1 .ret)
def F77.b0:IR:=F77.t3
def F77.res:List RV:=[.cell (.of 2) (some 4)]
def F77:Fn:={ params:=[(.of 0)],res:=F77.res,body:=F77.b0,init:=in3 }
theorem F77.ok:fnA Tryz.prog Tryz.f77 [0,1,2]=some F77:=by kernel_rfl
abbrev F78.fr:=fr3
def F78.t0:IR:=.reg (dA [] 12773)
def F78.t1:IR:=.reg (dA [] 4086697400208058329)
def F78.t3:IR:=.seq F78.t0 (.seq F78.t1 .ret)
def F78.b0:IR:=F78.t3
def F78.res:List RV:=[.t (.of 2)]
def F78:Fn:={ params:=[(.of 0),(.of 1)],res:=F78.res,body:=F78.b0,init:=in3 }
theorem F78.ok:fnA Tryz.prog Tryz.f78 [0,1,4]=some F78:=by kernel_rfl
abbrev F79.fr:=fr7
def F79.t0:IR:=.reg [iQo 1 (.mv (.c .zb))]
def F79.t1:IR:=.reg (dA [] 247113749065206)
def F79.t2:IR:=.reg (dA [] 738551606)
def F79.t3:IR:=.reg (dA [] 3931485)
def F79.t5:IR:=.reg (dA [] 4984)
def F79.t6:IR:=.reg (dA [] 1012375075074151029763289)
def F79.t9:IR:=.reg (dA [] 522140)
def F79.t12:IR:=.seq F79.t3 (.seq (.cond aT6 .skip (.exit 0)) (.seq (.block 1 (.seq F79.t5 F79.t6)) F79.t9))
def F79.t13:IR:=.loop F79.t12
def F79.t16:IR:=.reg (dA [] 22936)
def F79.t20:IR:=.seq F79.t0 (.seq F79.t1 (.seq (.seq F79.t2 (.block 0 F79.t13)) (.seq F79.t16 .ret)))
def F79.b0:IR:=F79.t20
def F79.res:List RV:=[.t (.of 1)]
def F79:Fn:={ params:=[(.of 0)],res:=F79.res,body:=F79.b0,init:=in7 }
theorem F79.ok:fnA Tryz.prog Tryz.f79 [0,2,3,4,8,9,10]=some F79:=by kernel_rfl
abbrev F80.fr:=fr3
def F80.t0:IR:=.reg (dA [] 3136156388)
def F80.t1:IR:=dI [] 285587068516813738503162977594716254879111545
def F80.t3:IR:=.seq F80.t0 (.seq F80.t1 .ret)
def F80.b0:IR:=F80.t3
def F80.res:List RV:=[.cell (.of 2) (some 4)]
def F80:Fn:={ params:=[(.of 0)],res:=F80.res,body:=F80.b0,init:=in3 }
theorem F80.ok:fnA Tryz.prog Tryz.f80 [0,1,2]=some F80:=by kernel_rfl
abbrev F81.fr:=fr5
def F81.t0:IR:=.reg [iQo 1 (.mv aC0)]
def F81.t1:IR:=.reg [iQo 2 (.mv aC0)]
def F81.t2:IR:=.reg (dA [] 10938002306657)
def F81.t5:IR:=.reg (dA [] 103900874287297505)
def F81.t6:IR:=.reg (dA [] 22936)
def F81.t11:IR:=.reg (dA [] 238985014)
def F81.t13:IR:=.seq (.seq F81.t2 (.cond aT3 .skip (.exit 0))) (.seq (.block 1 (.seq F81.t5 (.cond aT4 (.seq F81.t6 .ret) .skip))) F81.t11)
def F81.t14:IR:=.loop F81.t13
def F81.t17:IR:=.reg (dA [] 46382582)
def F81.t20:IR:=.seq F81.t0 (.seq (.seq F81.t1 (.block 0 F81.t14)) (.seq F81.t17 .ret))
def F81.b0:IR:=F81.t20
def F81.res:List RV:=[.t (.of 1)]
def F81:Fn:={ params:=[(.of 0)],res:=F81.res,body:=F81.b0,init:=in5 }
theorem F81.ok:fnA Tryz.prog Tryz.f81 [0,2,3,7,13]=some F81:=by kernel_rfl
abbrev F82.fr:=fr3
def F82.t0:IR:=.reg (dA [] 25445)
def F82.rT (r:List RO):List RO:=dA r 24949513123539385135782358067194440953465
def F82.tO:List RO:=F82.rT []
def F82.rR (r:List RO):List RO:=dA r 2208799745443615031798548516501450
def F82.sH:List RO:=F82.rR F82.tO
def F82.t1:IR:=.reg F82.sH
def F82.t4:IR:=.cond aT2 (.seq (.reg (dA [] 25445)) .ret) .skip
def F82.t6:IR:=.reg (dA [] 47598138870)
def F82.t7:IR:=.seq F82.t6 .ret
def F82.t9:IR:=.seq F82.t0 (.seq (.seq F82.t1 F82.t4) F82.t7)
def F82.b0:IR:=F82.t9
def F82.res:List RV:=[.t (.of 1)]
def F82:Fn:={ params:=[(.of 0)],res:=F82.res,body:=F82.b0,init:=in3 }
theorem F82.ok:fnA Tryz.prog Tryz.f82 [0,2,15]=some F82:=by kernel_rfl
abbrev F83.fr:=fr6
def F83.t0:IR:=.reg (dA [] 2104947436)
def F83.t1:IR:=.reg (dA [] 2296)
def F83.t2:IR:=.reg (dA [] 8936224438)
def F83.t3:IR:=.reg (dA [] 20962456023137)
def F83.t4:IR:=.reg (dA [] 7950474587949867753781844697)
def F83.t8:IR:=dI [] 5266763628492438730677280464314979520474002825019752252959322489
def F83.t13:IR:=.seq F83.t0 (.seq F83.t1 (.seq F83.t2 (.seq (.seq F83.t3 (.cond aT5 (.seq F83.t4 .ret) .skip)) (.seq F83.t8 .ret))))
def F83.b0:IR:=F83.t13
def F83.res:List RV:=[.cell (.of 1) (some 2),.cell (.of 2) (some 2)]
def F83:Fn:={ params:=[(.of 0)],res:=F83.res,body:=F83.b0,init:=in6 }
theorem F83.ok:fnA Tryz.prog Tryz.f83 [0,2,3,4,5,12]=some F83:=by kernel_rfl
abbrev F84.fr:=fr5
def F84.t0:IR:=.reg [iQo 2 (.mv (.c .zb))]
def F84.t1:IR:=.reg (dA [] 11921675510)
def F84.t4:IR:=.reg (dA [] 993721050750309410400202)
def F84.t5:IR:=.reg (dA [] 48122474977)
def F84.t8:IR:=.seq (.seq F84.t1 (.cond aT4 .skip (.exit 0))) (.block 1 (.seq F84.t4 F84.t5))
def F84.t9:IR:=.loop F84.t8
def F84.t11:IR:=.reg (dA [] 14584)
def F84.t14:IR:=.seq F84.t0 (.seq (.block 0 F84.t9) (.seq F84.t11 .ret))
def F84.b0:IR:=F84.t14
def F84.res:List RV:=[.t (.of 2)]
def F84:Fn:={ params:=[(.of 0),(.of 1)],res:=F84.res,body:=F84.b0,init:=in5 }
theorem F84.ok:fnA Tryz.prog Tryz.f84 [0,1,4,6,9]=some F84:=by kernel_rfl
abbrev F85.fr:=fr5
def F85.t0:IR:=.reg [iQo 1 (.mv (.c .zb))]
def F85.t1:IR:=.reg [iQo 2 (.mv (.c .zb))]
def F85.t2:IR:=.reg [iQo 3 (.mv aC0)]
def F85.t3:IR:=.reg (dA [] 1368321815905)
def F85.t6:IR:=.reg (dA [] 315945708973832181224681069363645220218173826)
def F85.t8:IR:=.reg (dA [] 37658294)
def F85.t10:IR:=.seq (.seq F85.t3 (.cond aT4 .skip (.exit 0))) (.seq (.block 1 F85.t6) F85.t8)
def F85.t11:IR:=.loop F85.t10
def F85.t14:IR:=.reg (dA [] 22936)
def F85.t18:IR:=.seq F85.t0 (.seq F85.t1 (.seq (.seq F85.t2 (.block 0 F85.t11)) (.seq F85.t14 .ret)))
def F85.b0:IR:=F85.t18
def F85.res:List RV:=[.t (.of 1)]
def F85:Fn:={ params:=[(.of 0)],res:=F85.res,body:=F85.b0,init:=in5 }
theorem F85.ok:fnA Tryz.prog Tryz.f85 [0,2,3,4,8]=some F85:=by kernel_rfl
abbrev F86.fr:=fr3
def F86.t0:IR:=.reg [iQo 1 (.mv aC0)]
def F86.t1:IR:=.reg (dA [] 11875538422)
def F86.t2:IR:=.reg [iQo 1 (.mv aC0)]
def F86.t6:IR:=.reg (dA [] 12140777215961)
def F86.t9:IR:=.seq F86.t0 (.seq (.seq F86.t1 (.cond aT2 (.seq F86.t2 .ret) .skip)) (.seq F86.t6 .ret))
def F86.b0:IR:=F86.t9
def F86.res:List RV:=[.t (.of 1)]
def F86:Fn:={ params:=[(.of 0)],res:=F86.res,body:=F86.b0,init:=in3 }
theorem F86.ok:fnA Tryz.prog Tryz.f86 [0,2,5]=some F86:=by kernel_rfl
abbrev F87.fr:=fr2
def F87.t0:IR:=.reg (dA [] 25445)
def F87.t1:IR:=.reg (dA [] 191392587254)
def F87.t3:IR:=.seq F87.t0 (.seq F87.t1 .ret)
def F87.b0:IR:=F87.t3
def F87.res:List RV:=[.t (.of 1)]
def F87:Fn:={ params:=[(.of 0)],res:=F87.res,body:=F87.b0,init:=in2 }
theorem F87.ok:fnA Tryz.prog Tryz.f87 [0,2]=some F87:=by kernel_rfl
abbrev F88.fr:=fr4
def F88.t0:IR:=.reg [iQo 1 (.mv (.c (.str [])))]
def F88.t1:IR:=.reg (dA [] 7207534794374387467787733983767277481)
def F88.t2:IR:=.reg (dA [] 399995318437108241)
def F88.t5:IR:=.seq F88.t0 (.seq F88.t1 (.seq F88.t2 .ret))
def F88.b0:IR:=F88.t5
def F88.res:List RV:=[.t (.of 1)]
def F88:Fn:={ params:=[(.of 0)],res:=F88.res,body:=F88.b0,init:=in4 }
theorem F88.ok:fnA Tryz.prog Tryz.f88 [0,2,3,4]=some F88:=by kernel_rfl
abbrev F89.fr:=fr14
def F89.t0:IR:=.reg [iQo 2 (.mv (.c (.str [])))]
def F89.t1:IR:=.reg (dA [] 513307794766240057934196649)
def F89.t2:IR:=.reg (dA [] 120990793742384915714267916201)
def F89.t3:IR:=.reg (dA [] 55647061654744545)
def F89.t4:IR:=.reg (dA [] 2182757767504023022432479946)
def F89.t17:IR:=.seq F89.t0 (.seq F89.t1 (.seq F89.t2 (.seq (.seq F89.t3 (.cond aT13 (.seq F89.t4 .ret) .skip)) (.seq (.reg (dA [] 3009691739495232553024379885990992392105)) (.seq (.reg (dA [] 1935997197917179700743010400302926899113)) (.seq (.wm [] [((.s (.zi 2 aT9)),0,[]),((.s (.zi 2 aT11)),0,[]),((.s (.zi 2 aT10)),1,[]),((.s (.zi 2 aT12)),1,[]),((iCa 143 [aS3,aS2]),0,[]),((iCa 143 [aS2,aS1]),0,[]),((iCa 140 [aS1,aS0]),0,[]),((iQm 2 0),0,[])]) .ret))))))
def F89.b0:IR:=F89.t17
def F89.res:List RV:=[.t (.of 2)]
def F89:Fn:={ params:=[(.of 0),(.of 1)],res:=F89.res,body:=F89.b0,init:=in14 }
theorem F89.ok:fnA Tryz.prog Tryz.f89 [0,1,4,5,6,7,8,9,10,11,12,13,14,30]=some F89:=by kernel_rfl
abbrev F90.fr:=fr3
def F90.t0:IR:=.reg [iQo 2 (.mv (.c (.str [])))]
def F90.t1:IR:=.reg (dA [] 261002807605608441817)
def F90.t3:IR:=.seq F90.t0 (.seq F90.t1 .ret)
def F90.b0:IR:=F90.t3
def F90.res:List RV:=[.t (.of 2)]
def F90:Fn:={ params:=[(.of 0),(.of 1)],res:=F90.res,body:=F90.b0,init:=in3 }
theorem F90.ok:fnA Tryz.prog Tryz.f90 [0,1,4]=some F90:=by kernel_rfl
abbrev F91.fr:=fr8
def F91.b0:IR:=dI [] 4487841071867619367365492990987443100862638953709016276688564392593854125574020503
def F91.res:List RV:=[.t (.of 1)]
def F91:Fn:={ params:=[(.of 0)],res:=F91.res,body:=F91.b0,init:=in8 }
theorem F91.ok:fnA Tryz.prog Tryz.f91 [0,2,4,5,6,7,8,12]=some F91:=by kernel_rfl
abbrev F92.fr:=fr2
def F92.b0:IR:=dI [] 209149824104633762430072353483910212299218327
def F92.res:List RV:=[.t (.of 1)]
def F92:Fn:={ params:=[(.of 0)],res:=F92.res,body:=F92.b0,init:=in2 }
theorem F92.ok:fnA Tryz.prog Tryz.f92 [0,2]=some F92:=by kernel_rfl
abbrev F93.fr:=fr4
def F93.b0:IR:=dI [] 1433663206289784279314327
def F93.res:List RV:=[.t (.of 2)]
def F93:Fn:={ params:=[(.of 0),(.of 1)],res:=F93.res,body:=F93.b0,init:=in4 }
theorem F93.ok:fnA Tryz.prog Tryz.f93 [0,1,4,5]=some F93:=by kernel_rfl
abbrev F94.fr:=fr7
def F94.b0:IR:=dI [] 6564583134057179399991596448303467153894409457848602913363495049190441696527738393557106007258399465606843891352584538261142844339196629042151632185071020245525599086434006013111277656555484672340118025856489570117118603489155307809530595239896495069770782249332113969561493482028841733700100588335254419
def F94.res:List RV:=[.cell (.of 2) (some 7)]
def F94:Fn:={ params:=[(.of 0)],res:=F94.res,body:=F94.b0,init:=in7 }
theorem F94.ok:fnA Tryz.prog Tryz.f94 [0,1,2,3,4,8,9]=some F94:=by kernel_rfl
abbrev F95.fr:=oI
def F95.b0:IR:=dI [] 77247794512332863054959969386656426119919434882348715457152001747777933357570807629404014554622193723220352562255792688583632426390245813444779641373365010558760195379517885807365271609311576668001360485259611792848010661962865555497512446432323556909985351
def F95.res:List RV:=[.cell (.of 2) (some 3),.cell (.of 3) (some 2),.t (.of 4)]
def F95:Fn:={ params:=[(.of 0)],res:=F95.res,body:=F95.b0,init:=o9 }
theorem F95.ok:fnA Tryz.prog Tryz.f95 [0,1,2,3,4,5,6,7,17,28]=some F95:=by kernel_rfl
abbrev F97.fr:=fr8
def F97.b0:IR:=dI [] 15146875086279460092385852641826761550678642624028782238852422847292098692400786031412105463384729387169513126991437485883
def F97.res:List RV:=[.t (.of 4)]
def F97:Fn:={ params:=[(.of 0),(.of 1)],res:=F97.res,body:=F97.b0,init:=in8 }
theorem F97.ok:fnA Tryz.prog Tryz.f97 [0,1,2,3,4,5,19,22]=some F97:=by kernel_rfl
abbrev F98.fr:=fr5
def F98.b0:IR:=dI [] 29239018666490326164855549154822632668083524813631383
def F98.res:List RV:=[.t (.of 2)]
def F98:Fn:={ params:=[(.of 0),(.of 1)],res:=F98.res,body:=F98.b0,init:=in5 }
theorem F98.ok:fnA Tryz.prog Tryz.f98 [0,1,4,5,9]=some F98:=by kernel_rfl
abbrev F99.fr:=fr12
def F99.b0:IR:=dI [] 9733038329146514900065619645875431530021802361743269621414368690746101576624013458139781992987055140637790851619386235082656532142688922762546006631136306844388175453884228276049723
def F99.res:List RV:=[.cell (.of 3) none,.cell (.of 4) none]
def F99:Fn:={ params:=[(.of 0),(.of 1)],res:=F99.res,body:=F99.b0,init:=in12 }
theorem F99.ok:fnA Tryz.prog Tryz.f99 [0,1,3,4,5,6,8,9,11,12,13,18]=some F99:=by kernel_rfl
abbrev F100.fr:=fr8
def F100.b0:IR:=dI [] 1458894541889952120090978113698438976803797490538370225631861163288886198863733405429655
def F100.res:List RV:=[.t (.of 2)]
def F100:Fn:={ params:=[(.of 0),(.of 1)],res:=F100.res,body:=F100.b0,init:=in8 }
theorem F100.ok:fnA Tryz.prog Tryz.f100 [0,1,4,5,7,8,9,16]=some F100:=by kernel_rfl
abbrev aV.fr:=fr4
def aV.b0:IR:=dI [] 2880951658930146642427548981113022484825239
def aV.res:List RV:=[.t (.of 3)]
def aV:Fn:={ params:=[(.of 0),(.of 1),(.of 2)],res:=aV.res,body:=aV.b0,init:=in4 }
theorem aV.ok:fnA Tryz.prog Tryz.f101 [0,1,2,4]=some aV:=by kernel_rfl
abbrev F102.fr:=fr15
def F102.b0:IR:=dI [] 1401808260152248823602091573814412274142263272350421482709166977940465652432794466114924363884534000166618225930436802878480993618787092629216014827299396625338954453138499848281966190422398928244119
def F102.res:List RV:=[.t (.of 1)]
def F102:Fn:={ params:=[(.of 0)],res:=F102.res,body:=F102.b0,init:=in15 }
theorem F102.ok:fnA Tryz.prog Tryz.f102 [0,2,3,5,6,8,9,10,11,12,20,25,26,27,28]=some F102:=by kernel_rfl
abbrev F103.fr:=fr9
def F103.b0:IR:=dI [] 1300744499027161489389881196782109256689679797535954524948703243054130250256074985399998383910820957307951786108382099
def F103.res:List RV:=[.t (.of 3)]
def F103:Fn:={ params:=[(.of 0),(.of 1)],res:=F103.res,body:=F103.b0,init:=in9 }
theorem F103.ok:fnA Tryz.prog Tryz.f103 [0,1,3,4,5,6,7,8,9]=some F103:=by kernel_rfl
abbrev F104.fr:=fr9
def F104.b0:IR:=dI [] 20811911984434583830238099148513748107034883994047151196665931673597890785110258812703008774438706557664512139946355603
def F104.res:List RV:=[.t (.of 3)]
def F104:Fn:={ params:=[(.of 0),(.of 1)],res:=F104.res,body:=F104.b0,init:=in9 }
theorem F104.ok:fnA Tryz.prog Tryz.f104 [0,1,3,4,5,6,7,8,9]=some F104:=by kernel_rfl
abbrev F105.fr:=fr5
def F105.b0:IR:=dI [] 173263347236899381172957680228155
def F105.res:List RV:=[.t (.of 4)]
def F105:Fn:={ params:=[(.of 0),(.of 1)],res:=F105.res,body:=F105.b0,init:=in5 }
theorem F105.ok:fnA Tryz.prog Tryz.f105 [0,1,2,3,4]=some F105:=by kernel_rfl
abbrev F106.fr:=fr12
def F106.b0:IR:=dI [] 11219150226233414354866318529683294697926835554100904070201887027226653110966253736648769548971385609265346715667711181817433029048252985006333827859534828336071778218660900205731336652822436108151
def F106.res:List RV:=[.cell (.of 2) (some 2)]
def F106:Fn:={ params:=[(.of 0),(.of 1)],res:=F106.res,body:=F106.b0,init:=in12 }
theorem F106.ok:fnA Tryz.prog Tryz.f106 [0,1,4,5,6,8,9,13,14,15,16,27]=some F106:=by kernel_rfl
abbrev F107.fr:=fr3
def F107.b0:IR:=dI [] 5905821870106600767212435
def F107.res:List RV:=[.t (.of 2)]
def F107:Fn:={ params:=[(.of 0)],res:=F107.res,body:=F107.b0,init:=in3 }
theorem F107.ok:fnA Tryz.prog Tryz.f107 [0,1,2]=some F107:=by kernel_rfl
abbrev F108.fr:=fr9
def F108.b0:IR:=dI [] 12098624659478776161358353527436537067402669622097854128626222939159523083924090247713860240680529619781914007
def F108.res:List RV:=[.t (.of 1)]
def F108:Fn:={ params:=[(.of 0)],res:=F108.res,body:=F108.b0,init:=in9 }
theorem F108.ok:fnA Tryz.prog Tryz.f108 [0,2,3,4,7,8,9,10,17]=some F108:=by kernel_rfl
abbrev F109.fr:=fr3
def F109.b0:IR:=dI [] 94476557296844017347578771
def F109.res:List RV:=[.t (.of 2)]
def F109:Fn:={ params:=[(.of 0)],res:=F109.res,body:=F109.b0,init:=in3 }
theorem F109.ok:fnA Tryz.prog Tryz.f109 [0,1,2]=some F109:=by kernel_rfl
abbrev F110.fr:=fr4
def F110.b0:IR:=dI [] 4330203454779565701568338952429868221752531730700784102291
def F110.res:List RV:=[.t (.of 3)]
def F110:Fn:={ params:=[(.of 0),(.of 1)],res:=F110.res,body:=F110.b0,init:=in4 }
theorem F110.ok:fnA Tryz.prog Tryz.f110 [0,1,2,4]=some F110:=by kernel_rfl
abbrev F111.fr:=fr3
def F111.b0:IR:=dI [] 94900389688681568005507987
def F111.res:List RV:=[.t (.of 2)]
def F111:Fn:={ params:=[(.of 0)],res:=F111.res,body:=F111.b0,init:=in3 }
theorem F111.ok:fnA Tryz.prog Tryz.f111 [0,1,2]=some F111:=by kernel_rfl
abbrev F112.fr:=fr3
def F112.b0:IR:=dI [] 94684341422090281736981395
def F112.res:List RV:=[.t (.of 2)]
def F112:Fn:={ params:=[(.of 0)],res:=F112.res,body:=F112.b0,init:=in3 }
theorem F112.ok:fnA Tryz.prog Tryz.f112 [0,1,2]=some F112:=by kernel_rfl
abbrev F113.fr:=fr3
def F113.b0:IR:=dI [] 138496111116928333873305521724350557987020134482597531432168993304567335827
def F113.res:List RV:=[.t (.of 2)]
def F113:Fn:={ params:=[(.of 0)],res:=F113.res,body:=F113.b0,init:=in3 }
theorem F113.ok:fnA Tryz.prog Tryz.f113 [0,1,2]=some F113:=by kernel_rfl
abbrev F114.fr:=fr6
def F114.b0:IR:=dI [] 9926269973958821595908523274374793804558928163263505031092717090579828236886714253860243926783983355352687962397069585006247267490736934125116082494609078246780104852531860458387
def F114.res:List RV:=[.t (.of 2)]
def F114:Fn:={ params:=[(.of 0)],res:=F114.res,body:=F114.b0,init:=in6 }
theorem F114.ok:fnA Tryz.prog Tryz.f114 [0,1,2,3,4,13]=some F114:=by kernel_rfl
abbrev F115.fr:=fr6
def F115.b0:IR:=dI [] 12105914226681476741958481119458336920410247662548552929501028633015571598006222844643835691786018551046327187
def F115.res:List RV:=[.t (.of 2)]
def F115:Fn:={ params:=[(.of 0)],res:=F115.res,body:=F115.b0,init:=in6 }
theorem F115.ok:fnA Tryz.prog Tryz.f115 [0,1,2,5,8,13]=some F115:=by kernel_rfl
abbrev F116.fr:=fr3
def F116.b0:IR:=dI [] 28640005814466665876422945236071388303416852204435
def F116.res:List RV:=[.t (.of 2)]
def F116:Fn:={ params:=[(.of 0)],res:=F116.res,body:=F116.b0,init:=in3 }
theorem F116.ok:fnA Tryz.prog Tryz.f116 [0,1,2]=some F116:=by kernel_rfl
abbrev F117.fr:=fr19
def F117.b0:IR:=dI [] 496359541381992961681734677981126542914881357068173371967076674292164500271026875105348465441591248151842248606720389029371550938525807981069824128739774143150899055246375194270808810994082467563459231042009264654722990864286526765432075249046059815036417803604540634153175641418835037453066132340412028591076471729043
def F117.res:List RV:=[.t (.of 3)]
def F117:Fn:={ params:=[(.of 0),(.of 1)],res:=F117.res,body:=F117.b0,init:=in19 }
theorem F117.ok:fnA Tryz.prog Tryz.f117 [0,1,2,4,5,6,7,8,10,14,15,16,17,22,23,24,25,40,45]=some F117:=by kernel_rfl
abbrev aU.fr:=fr3
def aU.b0:IR:=dI [] 5907006482424753197402007
def aU.res:List RV:=[.t (.of 2)]
def aU:Fn:={ params:=[(.of 0),(.of 1)],res:=aU.res,body:=aU.b0,init:=in3 }
theorem aU.ok:fnA Tryz.prog Tryz.f118 [0,1,4]=some aU:=by kernel_rfl
abbrev aT.fr:=fr3
def aT.b0:IR:=dI [] 721305029425599334295
def aT.res:List RV:=[.t (.of 2)]
def aT:Fn:={ params:=[(.of 0),(.of 1)],res:=aT.res,body:=aT.b0,init:=in3 }
theorem aT.ok:fnA Tryz.prog Tryz.f119 [0,1,3]=some aT:=by kernel_rfl
abbrev pz.fr:=fr9
def pz.b3:IR:=dI [] 3111617285474812497265701802516411876065209707528311882200752736249501691345317617
def pz.g2 (X3:IR):IR:=(.block 0 X3)
def pz.b2:IR:=pz.g2 pz.b3
def pz.b9:IR:=dI [] 337815
def pz.b0:IR:=dI [pz.b2,pz.b9] 3022228057713954030289629739085788983873882007
def pz.res:List RV:=[.t (.of 2)]
def pz:Fn:={ params:=[(.of 0),(.of 1)],res:=pz.res,body:=pz.b0,init:=in9 }
theorem pz.ok:fnA Tryz.prog Tryz.f120 [0,1,4,5,10,12,13,14,24]=some pz:=by kernel_rfl
abbrev ku.fr:=oI
def ku.b8:IR:=dI [] 2583911287449110
def ku.b9:IR:=dI [] 947804614
def ku.b3:IR:=dI [ku.b8,ku.b9] 21871029222007813789344347058328239501366840641129594583380483446415518093644483662059460309778322148207722164212190818033
def ku.g2 (X3:IR):IR:=(.block 0 X3)
def ku.b2:IR:=ku.g2 ku.b3
def ku.b10:IR:=dI [] 155031
def ku.b0:IR:=dI [ku.b2,ku.b10] 27221817709605344109059625524271233751066326555890487362674071
def ku.res:List RV:=[.t (.of 1)]
def ku:Fn:={ params:=[(.of 0)],res:=ku.res,body:=ku.b0,init:=o9 }
theorem ku.ok:fnA Tryz.prog Tryz.f121 [0,2,3,5,8,12,13,14,15,31]=some ku:=by kernel_rfl
abbrev F122.fr:=fr23
def F122.b0:IR:=dI [] 34352414778582218868766067932599208607852096710956790317888788305243804415203441345810500523532893440738096123688347022824890347428954803340438515641886764813152942216709617278054068559561254116609918959533070098640520136414846426196421407501581031509158259376216394504321969243944904019705686070516384948945703884679459650315655000322936513535036807378313368619441307642294897431091311080698933767901362648696430857628720316142181088806038362046906520191727969208470414863712380861074435670749277650816378640717741070437232499300614874126161035728822944710607730357918414199646632570705075965261755972522316090786471846764826774637441393943
def F122.res:List RV:=[]
def F122:Fn:={ params:=[(.of 0),(.of 1),(.of 2),(.of 3)],res:=F122.res,body:=F122.b0,init:=in23 }
theorem F122.ok:fnA Tryz.prog Tryz.f122 [0,1,2,3,8,9,10,11,12,13,14,15,16,17,18,23,29,35,50,68,72,87,113]=some F122:=by kernel_rfl
abbrev F123.fr:=fr2
def F123.b0:IR:=dI [] 99803449317451213238402299048768134551
def F123.res:List RV:=[.t (.of 1)]
def F123:Fn:={ params:=[(.of 0)],res:=F123.res,body:=F123.b0,init:=in2 }
theorem F123.ok:fnA Tryz.prog Tryz.f123 [0,2]=some F123:=by kernel_rfl
abbrev bf.fr:=fr9
def bf.b2:IR:=dI [] 709231613610575509618119397494660151194161938232494767615729
def bf.g1 (X2:IR):IR:=(.block 0 X2)
def bf.b1:IR:=bf.g1 bf.b2
def bf.b8:IR:=dI [] 320867
def bf.b0:IR:=dI [bf.b1,bf.b8] 655341423344746155461029783
def bf.res:List RV:=[.t (.of 2)]
def bf:Fn:={ params:=[(.of 0),(.of 1)],res:=bf.res,body:=bf.b0,init:=in9 }
theorem bf.ok:fnA Tryz.prog Tryz.f124 [0,1,4,5,7,8,9,10,11]=some bf:=by kernel_rfl
abbrev jl.fr:=fr8
def jl.t0:IR:=.reg [iQo 2 (.mv aC0)]
def jl.t1:IR:=.reg (dA [] 738551286)
def jl.t2:IR:=.reg (dA [] 3931485)
def jl.t4:IR:=.reg (dA [] 4984)
def jl.t5:IR:=.reg (dA [] 56335119673576761058266)
def jl.t12:IR:=.reg (dA [] 522140)
def jl.t15:IR:=.seq jl.t2 (.seq (.cond aT6 .skip (.exit 0)) (.seq (.block 1 (.seq jl.t4 (.seq jl.t5 (.cond aT7 (.seq (.reg (dA [] 14680)) .ret) .skip)))) jl.t12))
def jl.t16:IR:=.loop jl.t15
def jl.t19:IR:=.reg [iQo 2 (.mv (.c (I (-1))))]
def jl.t22:IR:=.seq jl.t0 (.seq (.seq jl.t1 (.block 0 jl.t16)) (.seq jl.t19 .ret))
def jl.b0:IR:=jl.t22
def jl.res:List RV:=[.t (.of 2)]
def jl:Fn:={ params:=[(.of 0),(.of 1)],res:=jl.res,body:=jl.b0,init:=in8 }
theorem jl.ok:fnA Tryz.prog Tryz.f125 [0,1,4,5,7,8,9,16]=some jl:=by kernel_rfl
abbrev ul.fr:=fr3
def ul.t0:IR:=.reg (dA [] 418509540)
def ul.zgq (r:List RO):List RO:=dA r 17809031287459479980611171601
def ul.r1_3:List RO:=ul.zgq []
def ul.zgp (r:List RO):List RO:=dA r 438904213229
def ul.r1_2:List RO:=ul.zgp ul.r1_3
def ul.rT (r:List RO):List RO:=dA r 12976727870939571819078513
def ul.tO:List RO:=ul.rT ul.r1_2
def ul.rR (r:List RO):List RO:=dA r 11517468292
def ul.sH:List RO:=ul.rR ul.tO
def ul.t1:IR:=.reg ul.sH
def ul.t3:IR:=.seq ul.t0 (.seq ul.t1 .ret)
def ul.b0:IR:=ul.t3
def ul.res:List RV:=[.t (.of 2)]
def ul:Fn:={ params:=[(.of 0)],res:=ul.res,body:=ul.b0,init:=in3 }
theorem ul.ok:fnA Tryz.prog Tryz.f126 [0,1,2]=some ul:=by kernel_rfl
abbrev vg.fr:=fr4
def vg.t0:IR:=.reg (dA [] 6743519972)
def vg.t1:IR:=.reg (dA [] 737926610052)
def vg.t2:IR:=.reg (dA [] 498482449259601)
def vg.t6:IR:=dI [] 154447759106022680499562436702898581591879728332584185
def vg.t9:IR:=.seq vg.t0 (.seq (.seq vg.t1 (.cond aT3 (.seq vg.t2 .ret) .skip)) (.seq vg.t6 .ret))
def vg.b0:IR:=vg.t9
def vg.res:List RV:=[.t (.of 2)]
def vg:Fn:={ params:=[(.of 0)],res:=vg.res,body:=vg.b0,init:=in4 }
theorem vg.ok:fnA Tryz.prog Tryz.f127 [0,1,2,4]=some vg:=by kernel_rfl
abbrev nV.fr:=fr5
def nV.t0:IR:=.reg (dA [] 1578572243006926)
def nV.t1:IR:=dI [] 2003174302575627269944769788825967865
def nV.t3:IR:=.seq nV.t0 (.seq nV.t1 .ret)
def nV.b0:IR:=nV.t3
def nV.res:List RV:=[.cell (.of 4) (some 4)]
def nV:Fn:={ params:=[(.of 0),(.of 1)],res:=nV.res,body:=nV.b0,init:=in5 }
theorem nV.ok:fnA Tryz.prog Tryz.f128 [0,1,2,3,4]=some nV:=by kernel_rfl
abbrev nU.fr:=fr5
def nU.t0:IR:=.reg (dA [] 1578572243006926)
def nU.t1:IR:=dI [] 2662675375001637103276926894155492333096632708738586397459733188420129145
def nU.t3:IR:=.seq nU.t0 (.seq nU.t1 .ret)
def nU.b0:IR:=nU.t3
def nU.res:List RV:=[.cell (.of 4) (some 4)]
def nU:Fn:={ params:=[(.of 0),(.of 1)],res:=nU.res,body:=nU.b0,init:=in5 }
theorem nU.ok:fnA Tryz.prog Tryz.f129 [0,1,2,3,4]=some nU:=by kernel_rfl
abbrev nT.fr:=fr3
def nT.t0:IR:=.reg (dA [] 3136156388)
def nT.t1:IR:=dI [] 519479841778736309327548850702585
def nT.t3:IR:=.seq nT.t0 (.seq nT.t1 .ret)
def nT.b0:IR:=nT.t3
def nT.res:List RV:=[.cell (.of 2) (some 4)]
def nT:Fn:={ params:=[(.of 0)],res:=nT.res,body:=nT.b0,init:=in3 }
theorem nT.ok:fnA Tryz.prog Tryz.f130 [0,1,2]=some nT:=by kernel_rfl
abbrev nu.fr:=fr2
def nu.t0:IR:=.reg (dA [] 58845)
def nu.t1:IR:=.reg (dA [] 2113582556662)
def nu.t3:IR:=.seq nu.t0 (.seq nu.t1 .ret)
def nu.b0:IR:=nu.t3
def nu.res:List RV:=[.cell (.of 1) (some 2)]
def nu:Fn:={ params:=[(.of 0)],res:=nu.res,body:=nu.b0,init:=in2 }
theorem nu.ok:fnA Tryz.prog Tryz.f131 [0,2]=some nu:=by kernel_rfl
abbrev ny.fr:=fr3
def ny.t0:IR:=.reg (dA [] 99742436)
def ny.t1:IR:=.reg (dA [] 33494370139930829469881)
def ny.t3:IR:=.seq ny.t0 (.seq ny.t1 .ret)
def ny.b0:IR:=ny.t3
def ny.res:List RV:=[.t (.of 2)]
def ny:Fn:={ params:=[(.of 0)],res:=ny.res,body:=ny.b0,init:=in3 }
theorem ny.ok:fnA Tryz.prog Tryz.f132 [0,1,2]=some ny:=by kernel_rfl
abbrev jh.fr:=fr8
def jh.t0:IR:=.reg (dA [] 1578572243006926)
def jh.t1:IR:=.reg (dA [] 6468105899191566)
def jh.t2:IR:=dI [] 1104391549783289764861569963480337692106105
def jh.t5:IR:=.reg (dA [] 65421913545326240750975193810143763626)
def jh.t6:IR:=.reg (dA [] 4243719077336310848017)
def jh.t10:IR:=.reg (dA [] 134648188654397237951411257)
def jh.t11:IR:=dI [] 37838892832950742223003978444055133150081172923475998414201
def jh.t13:IR:=.seq jh.t10 (.seq jh.t11 .ret)
def jh.t14:IR:=.seq (.seq jh.t5 (.cond aT7 (.seq jh.t6 .ret) .skip)) jh.t13
def jh.t16:IR:=.seq jh.t0 (.seq (.seq jh.t1 (.cond aT6 jh.t2 .skip)) jh.t14)
def jh.b0:IR:=jh.t16
def jh.res:List RV:=[.cell (.of 4) (some 4)]
def jh:Fn:={ params:=[(.of 0),(.of 1)],res:=jh.res,body:=jh.b0,init:=in8 }
theorem jh.ok:fnA Tryz.prog Tryz.f133 [0,1,2,3,4,5,8,20]=some jh:=by kernel_rfl
abbrev jf.fr:=fr8
def jf.t0:IR:=.reg [iQo 2 (.mv aC0)]
def jf.t1:IR:=.reg (dA [] 738551286)
def jf.t2:IR:=.reg (dA [] 3931485)
def jf.t4:IR:=.reg (dA [] 4984)
def jf.t5:IR:=.reg (dA [] 17743258785955439578)
def jf.t6:IR:=.reg (dA [] 14680)
def jf.t12:IR:=.reg (dA [] 522140)
def jf.t15:IR:=.seq jf.t2 (.seq (.cond aT6 .skip (.exit 0)) (.seq (.block 1 (.seq jf.t4 (.seq jf.t5 (.cond aT7 (.seq jf.t6 .ret) .skip)))) jf.t12))
def jf.t16:IR:=.loop jf.t15
def jf.t19:IR:=.reg [iQo 2 (.mv (.c (I (-1))))]
def jf.t22:IR:=.seq jf.t0 (.seq (.seq jf.t1 (.block 0 jf.t16)) (.seq jf.t19 .ret))
def jf.b0:IR:=jf.t22
def jf.res:List RV:=[.t (.of 2)]
def jf:Fn:={ params:=[(.of 0),(.of 1)],res:=jf.res,body:=jf.b0,init:=in8 }
theorem jf.ok:fnA Tryz.prog Tryz.f134 [0,1,4,5,7,8,9,16]=some jf:=by kernel_rfl
abbrev mg.fr:=fr6
def mg.t0:IR:=.reg (dA [] 2062414564)
def mg.t1:IR:=.reg (dA [] 1046609645398944722368594653300364573866)
def mg.t2:IR:=.reg (dA [] 118470379412568094905)
def mg.t11:IR:=.seq mg.t0 (.seq (.seq mg.t1 (.cond aT5 (.seq mg.t2 .ret) .skip)) (.seq (.reg (dA [] 10415177091321899054130)) (.seq (.reg (dA [] 473881445963304647385)) .ret)))
def mg.b0:IR:=mg.t11
def mg.res:List RV:=[.cell (.of 2) (some 2)]
def mg:Fn:={ params:=[(.of 0)],res:=mg.res,body:=mg.b0,init:=in6 }
theorem mg.ok:fnA Tryz.prog Tryz.f135 [0,1,2,3,4,12]=some mg:=by kernel_rfl
abbrev je.fr:=fr5
def je.t0:IR:=.reg (dA [] 25445)
def je.t1:IR:=.reg [iQo 2 (.mv aC0)]
def je.t2:IR:=.reg (dA [] 10938002306657)
def je.zgt (r:List RO):List RO:=dA r 333101097290226116
def je.r3_1:List RO:=je.zgt []
def je.zgs (r:List RO):List RO:=dA r 2206793884580449628502543715690442
def je.r3_0:List RO:=je.zgs je.r3_1
def je.t5:IR:=.reg je.r3_0
def je.t11:IR:=.reg (dA [] 238985014)
def je.t13:IR:=.seq (.seq je.t2 (.cond aT3 .skip (.exit 0))) (.seq (.block 1 (.seq je.t5 (.cond aT4 (.seq (.reg (dA [] 25445)) .ret) .skip))) je.t11)
def je.t14:IR:=.loop je.t13
def je.t17:IR:=.reg (dA [] 37733)
def je.t20:IR:=.seq je.t0 (.seq (.seq je.t1 (.block 0 je.t14)) (.seq je.t17 .ret))
def je.b0:IR:=je.t20
def je.res:List RV:=[.t (.of 1)]
def je:Fn:={ params:=[(.of 0)],res:=je.res,body:=je.b0,init:=in5 }
theorem je.ok:fnA Tryz.prog Tryz.f136 [0,2,3,7,19]=some je:=by kernel_rfl
abbrev yw.fr:=fr6
def yw.t0:IR:=.reg (dA [] 124381)
def yw.t1:IR:=.reg (dA [] 9789562108820318395271252226809010188201)
def yw.t2:IR:=.reg [iQo 4 (.mv aT2)]
def yw.t3:IR:=.reg (dA [] 341143030)
def yw.t6:IR:=.reg [iQo 3 (.mv (.c .zb))]
def yw.t7:IR:=.reg (dA [] 7998046191094)
def yw.t10:IR:=.reg (dA [] 48338127720891323278329207466418423349106050)
def yw.t11:IR:=.reg (dA [] 767534398008928757722)
def yw.t14:IR:=.seq (.seq yw.t7 (.cond aT5 .skip (.exit 0))) (.block 1 (.seq yw.t10 yw.t11))
def yw.t15:IR:=.loop yw.t14
def yw.t17:IR:=.reg (dA [] 10465949470097166977067254671076748520650)
def yw.t20:IR:=.seq yw.t6 (.seq (.block 0 yw.t15) (.seq yw.t17 .ret))
def yw.t23:IR:=.seq yw.t0 (.seq yw.t1 (.seq (.seq yw.t2 (.cond aT4 yw.t3 .skip)) yw.t20))
def yw.b0:IR:=yw.t23
def yw.res:List RV:=[.cell (.of 1) (some 2)]
def yw:Fn:={ params:=[(.of 0)],res:=yw.res,body:=yw.b0,init:=in6 }
theorem yw.ok:fnA Tryz.prog Tryz.f137 [0,2,3,4,13,18]=some yw:=by kernel_rfl
abbrev yj.fr:=fr7
def yj.t0:IR:=.reg (dA [] 124381)
def yj.t1:IR:=.reg [iQo 2 (.mv (.c .zb))]
def yj.t2:IR:=.reg (dA [] 36560374)
def yj.t3:IR:=.reg (dA [] 23074552)
def yj.t6:IR:=.reg (dA [] 8998018550)
def yj.t7:IR:=.reg (dA [] 48191000)
def yj.t8:IR:=.reg (dA [] 68639798)
def yj.t11:IR:=.reg (dA [] 1044060317207938755801)
def yj.t12:IR:=.reg (dA [] 21882887670)
def yj.t13:IR:=.seq yj.t11 yj.t12
def yj.t17:IR:=.seq (.seq yj.t3 (.cond aT5 .skip (.exit 0))) (.block 1 (.seq yj.t6 (.seq (.seq yj.t7 (.cond aT6 yj.t8 .skip)) yj.t13)))
def yj.t18:IR:=.loop yj.t17
def yj.t20:IR:=.reg (dA [] 34628919168021857)
def yj.t21:IR:=.seq yj.t20 .ret
def yj.t25:IR:=.seq yj.t0 (.seq yj.t1 (.seq yj.t2 (.seq (.block 0 yj.t18) yj.t21)))
def yj.b0:IR:=yj.t25
def yj.res:List RV:=[.cell (.of 1) (some 2)]
def yj:Fn:={ params:=[(.of 0)],res:=yj.res,body:=yj.b0,init:=in7 }
theorem yj.ok:fnA Tryz.prog Tryz.f138 [0,2,3,4,5,9,13]=some yj:=by kernel_rfl
abbrev uy.fr:=fr29
def uy.t0:IR:=.reg (dA [] 21566704)
def uy.t1:IR:=.reg (dA [] 3305878321974539233)
def uy.t2:IR:=.reg (dA [] 18149878)
def uy.t6:IR:=.reg (dA [] 1066508113142)
def uy.t7:IR:=.reg (dA [] 65744372860668597207085338498)
def uy.t8:IR:=.reg (dA [] 41894109521901246079194)
def uy.t109:IR:=.seq uy.t0 (.seq (.seq uy.t1 (.cond aT21 (.seq uy.t2 .ret) .skip)) (.seq (.seq uy.t6 (.cond aT22 (.seq uy.t7 (.seq uy.t8 .ret)) .skip)) (.seq (.reg (dA [] 4354550215519534248799296508036106114)) (.seq (.reg (dA [] 248090798354913)) (.seq (.reg (dA [] 12627126)) (.seq (.reg (dA [] 1474157486667636854608163706)) (.seq (.block 0 (.loop (.seq (.seq (.reg (dA [] 515683405642414252762)) (.cond aT23 .skip (.exit 0))) (.block 1 (.reg (dA [] 352384108516655460705)))))) (.seq (.reg (dA [] 3246985958195762389722)) (.seq (.seq (.reg (dA [] 5799894930512241370)) (.block 2 (.loop (.seq (.seq (.reg (dA [] 24541445112)) (.cond aT24 .skip (.exit 2))) (.seq (.block 3 (.seq (.reg (dA [] 489820050763121271513)) (iSr [(iQo 13 (.mv aC0))] (.seq (iSr [(iQo 14 (.mv aC0))] (.block 4 (.loop (.seq (.seq (.reg (dA [] 15386277292022)) (.cond aT25 .skip (.exit 4))) (.seq (.block 5 (.seq (.reg (dA [] 981502089069486331274789782953)) (.seq (.reg (dA [] 84673596557777446945818593804109186)) (.seq (.reg (dA [] 5098298915574)) (.seq (.seq (.reg (dA [] 24615517560)) (.cond aT26 (.seq (.reg (dA [] 70352370422)) (.reg (dA [] 19929882614))) .skip)) (.reg (dA [] 2079645042532709449982780114))))))) (.reg (dA [] 18856142838))))))) (.seq (.reg ((iSm 9)::((iSm 11)::((iSm 8)::((.s (.bin .add .int aS1 aS0))::((iSm 9)::((iSm 11)::((iSm 8)::((.s (.bin .add .int aS1 aS0))::((.s (.aB 1 aS3 aS0))::((.s (.load aS0))::((iSm 13)::((.s (.bin .sub .int aS1 aS0))::((.s (.aB 1 aS11 aS8))::((.w .none none (.store 1 aS0 aS1))::[]))))))))))))))) (.seq (.seq (.reg (dA [] 55423675842368961779835602)) (.cond aT27 (.seq (.reg (dA [] 28519882934)) (iSr [(iQo 17 (.mv aC0))] (.seq (iSr [(iQo 18 (.mv aC0))] (.block 6 (.loop (.seq (.seq (.reg (dA [] 30753764083702)) (.cond aT28 .skip (.exit 6))) (.seq (.block 7 (.seq (.wm [] (((iSm 9)::((iSm 18)::((iSm 11)::((.s (.bin .add .int aS1 aS0))::((.s (.aB 1 aS3 aS0))::((.s (.load aS0))::((iSm 7)::((iSm 18)::((.s (.aB 1 aS1 aS0))::((.s (.load aS0))::((.s (.bin .add .int aS4 aS0))::((iSm 17)::((.s (.bin .add .int aS1 aS0))::((iQm 19 0)::[])))))))))))))).map λo=>(o,0,[]))) (.seq (.reg (dA [] 8722583222086204754818148390118090)) (.reg (dA [] 11695368668278))))) (.reg (dA [] 22679881718))))))) (.reg ((iSm 9)::((iSm 11)::((iSm 8)::((.s (.bin .add .int aS1 aS0))::((iSm 9)::((iSm 11)::((iSm 8)::((.s (.bin .add .int aS1 aS0))::((.s (.aB 1 aS3 aS0))::((.s (.load aS0))::((iSm 17)::((.s (.bin .add .int aS1 aS0))::((.s (.aB 1 aS11 aS8))::((.w .none none (.store 1 aS0 aS1))::[])))))))))))))))))) .skip)) (.reg (dA [] 30989101515413620953)))))))) (.reg (dA [] 10803148790))))))) (.seq (.wm [] [((iSm 9),0,[]),((iSm 8),0,[]),((.s (.slice 1 aS1 none (some aS0) none)),0,[]),((iSm 6),1,[]),((.s (.aB 1 aS0 aC0)),1,[]),((.s (.load aS0)),1,[]),((iCa 199 [aS3]),0,[]),((iCa 198 [aS0,aS1]),0,[]),((.s (.mv aS0)),0,[]),((.s (.ext 0 aS0)),0,[]),((.s (.ext 1 aS1)),0,[]),((iQm 20 1),0,[]),((.s (.mv aS0)),0,[])]) (.seq (.reg (dA [] 175396540192344281)) .ret)))))))))))
def uy.b0:IR:=uy.t109
def uy.res:List RV:=[.t (.of 2),.t (.of 3)]
def uy:Fn:={ params:=[(.of 0),(.of 1)],res:=uy.res,body:=uy.b0,init:=in29 }
theorem uy.ok:fnA Tryz.prog Tryz.f139 [0,1,4,5,6,7,8,9,10,11,12,13,14,15,16,17,18,19,20,21,22,27,31,68,83,92,115,145,150]=some uy:=by kernel_rfl
abbrev yg.fr:=fr11
def yg.t0:IR:=.reg (dA [] 1766382572926414)
def yg.t1:IR:=.reg (dA [] 80606484)
def yg.t2:IR:=dI [] 1104391549783289785111077743766551402257785
def yg.t5:IR:=.reg (dA [] 10976674158267571386)
def yg.t6:IR:=.reg (dA [] 886403467148952329883957609)
def yg.t7:IR:=.reg (dA [] 887612392968566959058631017)
def yg.t8:IR:=.reg (dA [] 456533834058868511983802)
def yg.zgk (r:List RO):List RO:=dA r 415095213
def yg.r6_1:List RO:=yg.zgk []
def yg.zgj (r:List RO):List RO:=dA r 322387487486385437705370672060084938
def yg.r6_0:List RO:=yg.zgj yg.r6_1
def yg.t9:IR:=.reg yg.r6_0
def yg.t10:IR:=.reg (dA [] 16760)
def yg.t14:IR:=.reg (dA [] 1332864461238525683344447301077970)
def yg.t15:IR:=.seq yg.t14 .ret
def yg.t20:IR:=.seq yg.t5 (.seq yg.t6 (.seq yg.t7 (.seq yg.t8 (.seq (.seq yg.t9 (.cond aT10 (.seq yg.t10 .ret) .skip)) yg.t15))))
def yg.t22:IR:=.seq yg.t0 (.seq (.seq yg.t1 (.cond aT9 yg.t2 .skip)) yg.t20)
def yg.b0:IR:=yg.t22
def yg.res:List RV:=[.t (.of 4)]
def yg:Fn:={ params:=[(.of 0),(.of 1)],res:=yg.res,body:=yg.b0,init:=in11 }
theorem yg.ok:fnA Tryz.prog Tryz.f140 [0,1,2,3,4,5,6,8,10,12,49]=some yg:=by kernel_rfl
abbrev zm.fr:=fr14
def zm.t0:IR:=.reg (dA [] 26380015462)
def zm.t1:IR:=.reg (dA [] 4344)
def zm.t2:IR:=.reg (dA [] 358272862501942)
def zm.t7:IR:=.reg (dA [] 261655835034041418296747456120804467113)
def zm.t8:IR:=.reg [iQo 10 (.mv aT5)]
def zm.t9:IR:=.reg (dA [] 139815990)
def zm.t12:IR:=.reg (dA [] 56180864054)
def zm.zwq (r:List RO):List RO:=dA r 309645741
def zm.r8_1:List RO:=zm.zwq []
def zm.zwp (r:List RO):List RO:=dA r 1715697342349869948814000066678731817017802
def zm.r8_0:List RO:=zm.zwp zm.r8_1
def zm.t13:IR:=.reg zm.r8_0
def zm.t18:IR:=.reg (dA [] 18745951446040122024154)
def zm.t19:IR:=.reg (dA [] 175738912792801)
def zm.t20:IR:=.reg (dA [] 57065576383833338601690)
def zm.t23:IR:=.reg [iQo 13 (.mv aT5)]
def zm.t24:IR:=.reg (dA [] 942587062)
def zm.t27:IR:=.reg (dA [] 643338236318425)
def zm.t29:IR:=.seq (.seq zm.t23 (.cond aT13 zm.t24 .skip)) (.seq zm.t27 .ret)
def zm.t33:IR:=.seq zm.t12 (.seq (.seq zm.t13 (.cond aT11 (.seq (.reg (dA [] 26380015462)) .ret) .skip)) (.seq zm.t18 (.seq (.seq zm.t19 (.cond aT12 zm.t20 .skip)) zm.t29)))
def zm.t38:IR:=.seq zm.t0 (.seq zm.t1 (.seq (.seq zm.t2 (.cond aT9 (.seq (.reg (dA [] 26380015462)) .ret) .skip)) (.seq zm.t7 (.seq (.seq zm.t8 (.cond aT10 zm.t9 .skip)) zm.t33))))
def zm.b0:IR:=zm.t38
def zm.res:List RV:=[.t (.of 1),.t (.of 2),.t (.of 3)]
def zm:Fn:={ params:=[(.of 0)],res:=zm.res,body:=zm.b0,init:=in14 }
theorem zm.ok:fnA Tryz.prog Tryz.f141 [0,2,3,4,5,6,7,8,9,13,22,35,43,49]=some zm:=by kernel_rfl
abbrev zw.fr:=fr9
def zw.t0:IR:=.reg [iQo 2 (.mv (.c (.str [])))]
def zw.rT (r:List RO):List RO:=dA r 12228128013522576458957205399654059578
def zw.tO:List RO:=zw.rT []
def zw.rR (r:List RO):List RO:=dA r 73861294312089288429747907113482186
def zw.sH:List RO:=zw.rR zw.tO
def zw.t1:IR:=.reg zw.sH
def zw.t6:IR:=.reg (dA [] 48191096)
def zw.t10:IR:=.reg (dA [] 42644884616310423983744978)
def zw.t11:IR:=dI [] 8242800602253043629317555890677113
def zw.t12:IR:=.reg [iQo 4 (.mv (.c (.str [])))]
def zw.t13:IR:=.reg (dA [] 48207608)
def zw.t14:IR:=.reg (dA [] 418629)
def zw.t17:IR:=.reg (dA [] 85306737675286532702900906614986)
def zw.t18:IR:=.reg (dA [] 261035640)
def zw.t19:IR:=.reg (dA [] 80309669022438154496143578)
def zw.t22:IR:=.reg (dA [] 14360)
def zw.t25:IR:=.seq zw.t17 (.seq (.seq zw.t18 (.cond aT8 zw.t19 .skip)) (.seq zw.t22 .ret))
def zw.t29:IR:=.seq zw.t10 (.seq zw.t11 (.seq zw.t12 (.seq (.seq zw.t13 (.cond aT7 zw.t14 .skip)) zw.t25)))
def zw.t32:IR:=.seq zw.t0 (.seq (.seq zw.t1 (.cond aT5 (.seq (.reg (dA [] 273680984839460716233086938)) .ret) .skip)) (.seq (.seq zw.t6 (.cond aT6 (.reg (dA [] 12853983445946038234)) .skip)) zw.t29))
def zw.b0:IR:=zw.t32
def zw.res:List RV:=[.t (.of 2)]
def zw:Fn:={ params:=[(.of 0),(.of 1)],res:=zw.res,body:=zw.b0,init:=in9 }
theorem zw.ok:fnA Tryz.prog Tryz.f142 [0,1,4,5,6,20,27,45,54]=some zw:=by kernel_rfl
abbrev qx.fr:=fr14
def qx.t0:IR:=.reg [iQo 2 (.mv (.c (.str [])))]
def qx.t1:IR:=.reg (dA [] 513307794766240057934196649)
def qx.t2:IR:=.reg (dA [] 120990793742384915714267916201)
def qx.t3:IR:=.reg (dA [] 55647061654744545)
def qx.t4:IR:=.reg (dA [] 19199740367912448865137278232772517145378)
def qx.t17:IR:=.seq qx.t0 (.seq qx.t1 (.seq qx.t2 (.seq (.seq qx.t3 (.cond aT13 (.seq qx.t4 .ret) .skip)) (.seq (.reg (dA [] 3009691739495232553024379885990992392105)) (.seq (.reg (dA [] 1935997197917179700743010400302926899113)) (.seq (.wm [] [((.s (.zi 2 aT9)),0,[]),((.s (.zi 2 aT12)),0,[]),((.s (.zi 2 aT11)),1,[]),((.s (.zi 2 aT10)),1,[]),((.s (.zi 2 aT10)),3,[]),((.s (.zi 2 aT12)),3,[]),((iCa 143 [aS5,aS4]),0,[]),((iCa 143 [aS4,aS3]),0,[]),((iCa 206 [aS1,aS0]),0,[]),((iCa 143 [aS4,aS3]),0,[]),((iCa 140 [aS1,aS0]),0,[]),((iQm 2 0),0,[])]) .ret))))))
def qx.b0:IR:=qx.t17
def qx.res:List RV:=[.t (.of 2)]
def qx:Fn:={ params:=[(.of 0),(.of 1)],res:=qx.res,body:=qx.b0,init:=in14 }
theorem qx.ok:fnA Tryz.prog Tryz.f144 [0,1,4,5,6,7,8,9,10,11,12,13,14,30]=some qx:=by kernel_rfl
abbrev uq.fr:=fr4
def uq.t0:IR:=.reg [iQo 1 (.mv (.c (.str [])))]
def uq.t1:IR:=.reg (dA [] 50555349104118)
def uq.t2:IR:=.reg (dA [] 743796214)
def uq.t6:IR:=.reg (dA [] 97078434854390)
def uq.t7:IR:=.reg (dA [] 22776)
def uq.t11:IR:=.reg (dA [] 190693449206)
def uq.t15:IR:=.seq uq.t0 (.seq (.seq uq.t1 (.cond aT2 (.seq uq.t2 .ret) .skip)) (.seq (.seq uq.t6 (.cond aT3 (.seq uq.t7 .ret) .skip)) (.seq uq.t11 .ret)))
def uq.b0:IR:=uq.t15
def uq.res:List RV:=[.t (.of 1)]
def uq:Fn:={ params:=[(.of 0)],res:=uq.res,body:=uq.b0,init:=in4 }
theorem uq.ok:fnA Tryz.prog Tryz.f145 [0,2,5,10]=some uq:=by kernel_rfl
abbrev F146.fr:=fr3
def F146.b0:IR:=dI [] 96817702159266156651792936855
def F146.res:List RV:=[.t (.of 2)]
def F146:Fn:={ params:=[(.of 0),(.of 1)],res:=F146.res,body:=F146.b0,init:=in3 }
theorem F146.ok:fnA Tryz.prog Tryz.f146 [0,1,4]=some F146:=by kernel_rfl
abbrev F147.fr:=fr2
def F147.b0:IR:=dI [] 6045611526669883622284289503401039739515475831
def F147.res:List RV:=[.cell (.of 1) (some 3)]
def F147:Fn:={ params:=[(.of 0)],res:=F147.res,body:=F147.b0,init:=in2 }
theorem F147.ok:fnA Tryz.prog Tryz.f147 [0,2]=some F147:=by kernel_rfl
abbrev F148.fr:=oI
def F148.b0:IR:=dI [] 1092137642949102832382482984497030808918667568209563943922769603308035939425802438444747571543265850345900322198615231527434637322889006911889032676073655662560918174321073873757045114508282812265735981547635157391663674994501756828636843935424358263130875033149743033235
def F148.res:List RV:=[.t (.of 3)]
def F148:Fn:={ params:=[(.of 0),(.of 1)],res:=F148.res,body:=F148.b0,init:=o9 }
theorem F148.ok:fnA Tryz.prog Tryz.f148 [0,1,2,4,5,6,7,8,19,20]=some F148:=by kernel_rfl
abbrev F150.fr:=fr14
def F150.b0:IR:=dI [] 300348168885721817406507729903373742987479639784183568449503209359713044827315564194329738692878288570700045641522007174036501730455030841145851614547249009463564142496623538071
def F150.res:List RV:=[.t (.of 2)]
def F150:Fn:={ params:=[(.of 0),(.of 1)],res:=F150.res,body:=F150.b0,init:=in14 }
theorem F150.ok:fnA Tryz.prog Tryz.f150 [0,1,4,5,6,7,8,9,10,11,12,19,28,35]=some F150:=by kernel_rfl
abbrev F151.fr:=fr4
def F151.b0:IR:=dI [] 853012389084360788587467723298120560652183
def F151.res:List RV:=[.t (.of 2)]
def F151:Fn:={ params:=[(.of 0),(.of 1)],res:=F151.res,body:=F151.b0,init:=in4 }
theorem F151.ok:fnA Tryz.prog Tryz.f151 [0,1,4,7]=some F151:=by kernel_rfl
abbrev F152.fr:=fr3
def F152.b0:IR:=dI [] 47220646900005465397644179
def F152.res:List RV:=[.t (.of 2)]
def F152:Fn:={ params:=[(.of 0)],res:=F152.res,body:=F152.b0,init:=in3 }
theorem F152.ok:fnA Tryz.prog Tryz.f152 [0,1,2]=some F152:=by kernel_rfl
abbrev F153.fr:=fr3
def F153.b0:IR:=dI [] 304105175414601124453448611732133060368347
def F153.res:List RV:=[]
def F153:Fn:={ params:=[(.of 0),(.of 1)],res:=F153.res,body:=F153.b0,init:=in3 }
theorem F153.ok:fnA Tryz.prog Tryz.f153 [0,1,4]=some F153:=by kernel_rfl
abbrev F154.fr:=fr11
def F154.b0:IR:=dI [] 29497867009921924131597880188956268995110991717436257839724995879111690928210384269420348443317065083702985126156171308999240576385386259606789378330789868623990932719867933115858199491710869178203840407533136657030809411741433754141066189675069739561891335776450836313501478500333816899301933578467317554502394619799
def F154.res:List RV:=[.t (.of 2)]
def F154:Fn:={ params:=[(.of 0),(.of 1)],res:=F154.res,body:=F154.b0,init:=in11 }
theorem F154.ok:fnA Tryz.prog Tryz.f154 [0,1,4,5,6,7,10,15,28,35,49]=some F154:=by kernel_rfl
abbrev F155.fr:=fr5
def F155.b0:IR:=dI [] 5607813479453226987968453699465237556517748931319361296119028874125755097922617868193039461054245469071255
def F155.res:List RV:=[.t (.of 2)]
def F155:Fn:={ params:=[(.of 0),(.of 1)],res:=F155.res,body:=F155.b0,init:=in5 }
theorem F155.ok:fnA Tryz.prog Tryz.f155 [0,1,4,6,16]=some F155:=by kernel_rfl
end
end Go.Ev
