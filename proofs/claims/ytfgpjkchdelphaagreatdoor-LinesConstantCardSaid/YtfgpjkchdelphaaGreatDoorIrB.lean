import Derived.Test.YtfgpjkchdelphaaGreatDoorIrA
import Derived.Test.YtfgpjkchdelphaaGreatDoorEvC
import Derived.Test.YtfgpjkchdelphaaGreatDoorProg
import Derived.KernelRfl
set_option linter.unusedSimpArgs false
set_option linter.unusedVariables false
namespace Go.Ev
open Go Go.Proofs
set_option maxRecDepth 100000
noncomputable section

abbrev jy.fr:=fr10
def jy.t0:IR:=.reg (dA [] 126365)
def jy.t1:IR:=.reg (dA [] 1633148100326)
def jy.t2:IR:=.reg (dA [] 192544541)
def jy.t4:IR:=.reg (dA [] 2650237275170802707512529)
def jy.t5:IR:=.reg (dA [] 51092563447124462)
def jy.t6:IR:=.reg (dA [] 247290586805598106357576109811649)
def jy.t11:IR:=.reg (dA [] 59111852)
def jy.t14:IR:=.seq jy.t2 (.seq (.cond aT8 .skip (.exit 0)) (.seq (.block 1 (.seq jy.t4 (.seq jy.t5 (.cond aT9 jy.t6 .skip)))) jy.t11))
def jy.t15:IR:=.loop jy.t14
def jy.t18:IR:=.seq jy.t0 (.seq jy.t1 (.block 0 jy.t15))
def jy.b0:IR:=jy.t18
def jy.res:List RV:=[]
def jy:Fn:={ params:=[(.of 0),(.of 1)],res:=jy.res,body:=jy.b0,init:=in10 }
theorem jy.ok:fnA Tryz.prog Tryz.f111 [0,1,3,4,5,6,7,8,9,15]=some jy:=by kernel_rfl
abbrev nP.fr:=fr3
def nP.t0:IR:=.reg (dA [] 3605396172)
def nP.t1:IR:=.reg (dA [] 610227336392515569449235889)
def nP.t3:IR:=.seq nP.t0 (.seq nP.t1 .ret)
def nP.b0:IR:=nP.t3
def nP.res:List RV:=[.cell (.of 2) (some 4)]
def nP:Fn:={ params:=[(.of 0)],res:=nP.res,body:=nP.b0,init:=in3 }
theorem nP.ok:fnA Tryz.prog Tryz.f112 [0,1,2]=some nP:=by kernel_rfl
abbrev wu.fr:=fr6
def wu.t0:IR:=.reg (dA [] 1842317591571870)
def wu.t1:IR:=.reg (dA [] 6058044440694188091474730146580401)
def wu.t2:IR:=.reg (dA [] 5557527941019222084555487574433)
def wu.t6:IR:=dI [] 3793390057853614140262808999806713246565770091010285552778683651410267541661327427063279923097540639965883557089221234
def wu.t7:IR:=.seq wu.t6 .ret
def wu.t9:IR:=.seq wu.t0 (.seq (.seq wu.t1 (.cond aT5 (.seq wu.t2 .ret) .skip)) wu.t7)
def wu.b0:IR:=wu.t9
def wu.res:List RV:=[.cell (.of 4) (some 4)]
def wu:Fn:={ params:=[(.of 0),(.of 1)],res:=wu.res,body:=wu.b0,init:=in6 }
theorem wu.ok:fnA Tryz.prog Tryz.f114 [0,1,2,3,4,10]=some wu:=by kernel_rfl
abbrev nS.fr:=fr5
def nS.t0:IR:=.reg (dA [] 1842317591571870)
def nS.t1:IR:=dI [] 249941685012277964601811159842156146
def nS.t3:IR:=.seq nS.t0 (.seq nS.t1 .ret)
def nS.b0:IR:=nS.t3
def nS.res:List RV:=[.cell (.of 4) (some 4)]
def nS:Fn:={ params:=[(.of 0),(.of 1)],res:=nS.res,body:=nS.b0,init:=in5 }
theorem nS.ok:fnA Tryz.prog Tryz.f115 [0,1,2,3,4]=some nS:=by kernel_rfl
abbrev nY.fr:=fr3
def nY.t0:IR:=.reg (dA [] 4741)
def nY.t1:IR:=.reg (dA [] 25381552149620697)
def nY.t3:IR:=.seq nY.t0 (.seq nY.t1 .ret)
def nY.b0:IR:=nY.t3
def nY.res:List RV:=[.t (.of 2)]
def nY:Fn:={ params:=[(.of 0),(.of 1)],res:=nY.res,body:=nY.b0,init:=in3 }
theorem nY.ok:fnA Tryz.prog Tryz.f116 [0,1,4]=some nY:=by kernel_rfl
abbrev nZ.fr:=fr4
def nZ.t0:IR:=.reg (dA [] 315750092)
def nZ.t1:IR:=dI [] 147886580486823616482726038456331763846772181330098
def nZ.t3:IR:=.seq nZ.t0 (.seq nZ.t1 .ret)
def nZ.b0:IR:=nZ.t3
def nZ.res:List RV:=[.t (.of 3)]
def nZ:Fn:={ params:=[(.of 0),(.of 1)],res:=nZ.res,body:=nZ.b0,init:=in4 }
theorem nZ.ok:fnA Tryz.prog Tryz.f117 [0,1,2,3]=some nZ:=by kernel_rfl
abbrev nU.fr:=fr5
def nU.t0:IR:=.reg (dA [] 81930756025758)
def nU.t1:IR:=.reg (dA [] 19732697849563248052153)
def nU.t3:IR:=.seq nU.t0 (.seq nU.t1 .ret)
def nU.b0:IR:=nU.t3
def nU.res:List RV:=[.t (.of 4)]
def nU:Fn:={ params:=[(.of 0),(.of 1)],res:=nU.res,body:=nU.b0,init:=in5 }
theorem nU.ok:fnA Tryz.prog Tryz.f118 [0,1,2,3,4]=some nU:=by kernel_rfl
abbrev nQ.fr:=fr5
def nQ.t0:IR:=.reg (dA [] 1842317591571870)
def nQ.t1:IR:=dI [] 5315671662655294002051548812517355134670721071512362631013970432293567090
def nQ.t3:IR:=.seq nQ.t0 (.seq nQ.t1 .ret)
def nQ.b0:IR:=nQ.t3
def nQ.res:List RV:=[.cell (.of 4) (some 4)]
def nQ:Fn:={ params:=[(.of 0),(.of 1)],res:=nQ.res,body:=nQ.b0,init:=in5 }
theorem nQ.ok:fnA Tryz.prog Tryz.f119 [0,1,2,3,4]=some nQ:=by kernel_rfl
abbrev fF.fr:=fr4
def fF.t0:IR:=.reg (dA [] 921041612)
def fF.t1:IR:=.reg (dA [] 76411639721479999956952632442376009094001184233)
def fF.t2:IR:=.reg (dA [] 4274300660)
def fF.t5:IR:=.seq fF.t0 (.seq fF.t1 (.seq fF.t2 .ret))
def fF.b0:IR:=fF.t5
def fF.res:List RV:=[.cell (.of 2) (some 2)]
def fF:Fn:={ params:=[(.of 0)],res:=fF.res,body:=fF.b0,init:=in4 }
theorem fF.ok:fnA Tryz.prog Tryz.f120 [0,1,2,3]=some fF:=by kernel_rfl
abbrev rq.fr:=fr4
def rq.t0:IR:=.reg (dA [] 323288823198)
def rq.t1:IR:=dI [] 1002407675011573304149033248882
def rq.t3:IR:=.seq rq.t0 (.seq rq.t1 .ret)
def rq.b0:IR:=rq.t3
def rq.res:List RV:=[.t (.of 2),.t (.of 3)]
def rq:Fn:={ params:=[(.of 0)],res:=rq.res,body:=rq.b0,init:=in4 }
theorem rq.ok:fnA Tryz.prog Tryz.f121 [0,1,2,3]=some rq:=by kernel_rfl
abbrev vw.fr:=fr3
def vw.t0:IR:=.reg (dA [] 155318988)
def vw.tH (r:List RO):List RO:=dA r 1318818419815806
def vw.eF:List RO:=vw.tH []
def vw.tF (r:List RO):List RO:=dA r 13719505937316804848376673007026
def vw.tX:List RO:=vw.tF vw.eF
def vw.t1:IR:=.reg vw.tX
def vw.t3:IR:=.seq vw.t0 (.seq vw.t1 .ret)
def vw.b0:IR:=vw.t3
def vw.res:List RV:=[.t (.of 2)]
def vw:Fn:={ params:=[(.of 0)],res:=vw.res,body:=vw.b0,init:=in3 }
theorem vw.ok:fnA Tryz.prog Tryz.f122 [0,1,2]=some vw:=by kernel_rfl
abbrev zf.fr:=fr15
def zf.t0:IR:=.reg (dA [] 5172860548510)
def zf.t1:IR:=.reg (dA [] 200679886896858)
def zf.t2:IR:=.reg (dA [] 39465792)
def zf.t6:IR:=.reg (dA [] 571456568814)
def zf.t7:IR:=.reg [iQo 5 (.mv (.c (.str [])))]
def zf.t8:IR:=.reg [iQo 6 (.mv aC0)]
def zf.t9:IR:=.reg (dA [] 12039022472042)
def zf.t12:IR:=dI [] 2091141958863460896201864342530162
def zf.t13:IR:=.reg (dA [] 96919263541884497589555586083519681)
def zf.t14:IR:=.reg (dA [] 17390368983264955401460474066)
def zf.t19:IR:=.reg (dA [] 610098614)
def zf.t21:IR:=.seq (.seq zf.t9 (.cond aT10 .skip (.exit 0))) (.seq (.block 1 (.seq zf.t12 (.seq zf.t13 (.cond aT11 zf.t14 .skip)))) zf.t19)
def zf.t22:IR:=.loop zf.t21
def zf.t25:IR:=.reg (dA [] 1968143522660686268415358889937)
def zf.t26:IR:=.reg (dA [] 39465792)
def zf.t30:IR:=.reg [iQo 8 (.mv aC0)]
def zf.t31:IR:=.reg (dA [] 48177106441962)
def zf.t34:IR:=dI [] 11733961967605746452031991129527313909116964526594494125872985239075169887283826
def zf.t35:IR:=.reg (dA [] 39465792)
def zf.t40:IR:=.reg (dA [] 4172987254)
def zf.t42:IR:=.seq (.seq zf.t31 (.cond aT13 .skip (.exit 2))) (.seq (.block 3 (.seq zf.t34 (.cond aT14 (.seq zf.t35 .ret) .skip))) zf.t40)
def zf.t43:IR:=.loop zf.t42
def zf.t46:IR:=.reg (dA [] 104072182)
def zf.t54:IR:=.seq zf.t0 (.seq (.seq zf.t1 (.cond aT9 (.seq zf.t2 .ret) .skip)) (.seq zf.t6 (.seq zf.t7 (.seq (.seq zf.t8 (.block 0 zf.t22)) (.seq (.seq zf.t25 (.cond aT12 (.seq zf.t26 .ret) .skip)) (.seq (.seq zf.t30 (.block 2 zf.t43)) (.seq zf.t46 .ret)))))))
def zf.b0:IR:=zf.t54
def zf.res:List RV:=[.t (.of 2),.t (.of 3)]
def zf:Fn:={ params:=[(.of 0)],res:=zf.res,body:=zf.b0,init:=in15 }
theorem zf.ok:fnA Tryz.prog Tryz.f123 [0,1,2,3,4,5,6,7,8,12,18,33,46,50,66]=some zf:=by kernel_rfl
abbrev ru.fr:=fr3
def ru.t0:IR:=.reg [iQo 2 (.mv (.c (.str [])))]
def ru.t1:IR:=.reg (dA [] 3029369674530416601)
def ru.t3:IR:=.seq ru.t0 (.seq ru.t1 .ret)
def ru.b0:IR:=ru.t3
def ru.res:List RV:=[.t (.of 2)]
def ru:Fn:={ params:=[(.of 0),(.of 1)],res:=ru.res,body:=ru.b0,init:=in3 }
theorem ru.ok:fnA Tryz.prog Tryz.f124 [0,1,4]=some ru:=by kernel_rfl
abbrev zm.fr:=fr11
def zm.t0:IR:=.reg (dA [] 4852656)
def zm.t1:IR:=.reg (dA [] 8705551462054346051623684942880119772903378)
def zm.t2:IR:=.reg (dA [] 4852656)
def zm.t6:IR:=.reg (dA [] 2793568623362817002)
def zm.t7:IR:=.reg [iQo 4 (.mv aC0)]
def zm.t8:IR:=.reg (dA [] 498932840832441)
def zm.t9:IR:=.reg (dA [] 378506744)
def zm.t12:IR:=.reg (dA [] 20539919797493169)
def zm.t13:IR:=.reg (dA [] 5400884)
def zm.t14:IR:=.reg (dA [] 606920118)
def zm.zn4 (r:List RO):List RO:=dA r 560694586925090823195385208224915081669498213873
def zm.zvg:List RO:=zm.zn4 []
def zm.zn3 (r:List RO):List RO:=dA r 1662127781751896339611187802265717161444973843420658
def zm.zvh:List RO:=zm.zn3 zm.zvg
def zm.zn2 (r:List RO):List RO:=dA r 23066662299109912780510851924078802
def zm.zn1:List RO:=zm.zn2 zm.zvh
def zm.t17:IR:=.reg zm.zn1
def zm.t22:IR:=.reg (dA [] 9136783373938905)
def zm.t23:IR:=.seq (.seq zm.t17 (.cond aT10 (.seq (.reg (dA [] 4852656)) .ret) .skip)) zm.t22
def zm.t27:IR:=.reg (dA [] 951639030)
def zm.t29:IR:=.seq (.seq zm.t9 (.cond aT8 .skip (.exit 0))) (.seq (.block 1 (.seq zm.t12 (.seq (.seq zm.t13 (.cond aT9 zm.t14 .skip)) zm.t23))) zm.t27)
def zm.t30:IR:=.loop zm.t29
def zm.t33:IR:=.reg (dA [] 102805558)
def zm.t34:IR:=.seq zm.t33 .ret
def zm.t39:IR:=.seq zm.t0 (.seq (.seq zm.t1 (.cond aT7 (.seq zm.t2 .ret) .skip)) (.seq zm.t6 (.seq zm.t7 (.seq (.seq zm.t8 (.block 0 zm.t30)) zm.t34))))
def zm.b0:IR:=zm.t39
def zm.res:List RV:=[.t (.of 1),.t (.of 2)]
def zm:Fn:={ params:=[(.of 0)],res:=zm.res,body:=zm.b0,init:=in11 }
theorem zm.ok:fnA Tryz.prog Tryz.f125 [0,2,3,4,5,6,7,15,23,32,56]=some zm:=by kernel_rfl
abbrev zu.fr:=fr14
def zu.t0:IR:=.reg (dA [] 10102773606)
def zu.t1:IR:=.reg (dA [] 4344)
def zu.t2:IR:=.reg (dA [] 89355202364470)
def zu.t7:IR:=.reg (dA [] 9727193595084550484493487308843811737794)
def zu.t8:IR:=.reg [iQo 10 (.mv aT5)]
def zu.t9:IR:=.reg (dA [] 135482422)
def zu.t12:IR:=.reg (dA [] 39017372726)
def zu.zum (r:List RO):List RO:=dA r 829898381
def zu.r8_1:List RO:=zu.zum []
def zu.zul (r:List RO):List RO:=dA r 15139817393664874954124790181230653708400338
def zu.r8_0:List RO:=zu.zul zu.r8_1
def zu.t13:IR:=.reg zu.r8_0
def zu.t18:IR:=.reg (dA [] 28301364998949144584401)
def zu.t19:IR:=.reg (dA [] 96671946533738)
def zu.t20:IR:=.reg (dA [] 146792550423217011646673)
def zu.t23:IR:=.reg [iQo 13 (.mv aT5)]
def zu.t24:IR:=.reg (dA [] 942464822)
def zu.t27:IR:=.reg (dA [] 218254050974937)
def zu.t29:IR:=.seq (.seq zu.t23 (.cond aT13 zu.t24 .skip)) (.seq zu.t27 .ret)
def zu.t33:IR:=.seq zu.t12 (.seq (.seq zu.t13 (.cond aT11 (.seq (.reg (dA [] 10102773606)) .ret) .skip)) (.seq zu.t18 (.seq (.seq zu.t19 (.cond aT12 zu.t20 .skip)) zu.t29)))
def zu.t38:IR:=.seq zu.t0 (.seq zu.t1 (.seq (.seq zu.t2 (.cond aT9 (.seq (.reg (dA [] 10102773606)) .ret) .skip)) (.seq zu.t7 (.seq (.seq zu.t8 (.cond aT10 zu.t9 .skip)) zu.t33))))
def zu.b0:IR:=zu.t38
def zu.res:List RV:=[.t (.of 1),.t (.of 2),.t (.of 3)]
def zu:Fn:={ params:=[(.of 0)],res:=zu.res,body:=zu.b0,init:=in14 }
theorem zu.ok:fnA Tryz.prog Tryz.f127 [0,2,3,4,5,6,7,8,9,13,22,35,43,49]=some zu:=by kernel_rfl
abbrev yg.fr:=fr9
def yg.t0:IR:=.reg [iQo 2 (.mv (.c (.str [])))]
def yg.tH (r:List RO):List RO:=dA r 66024299983307761351048183528965117425
def yg.eF:List RO:=yg.tH []
def yg.tF (r:List RO):List RO:=dA r 147681786904550069099009919870810066
def yg.tX:List RO:=yg.tF yg.eF
def yg.t1:IR:=.reg yg.tX
def yg.t6:IR:=.reg (dA [] 48121464)
def yg.t10:IR:=.reg (dA [] 194365953504172083076917185)
def yg.t11:IR:=dI [] 4121736709911932061957046910186674
def yg.t12:IR:=.reg [iQo 4 (.mv (.c (.str [])))]
def yg.t13:IR:=.reg (dA [] 48203512)
def yg.t14:IR:=.reg (dA [] 441157)
def yg.t17:IR:=.reg (dA [] 166995455925310727009302966690002)
def yg.t18:IR:=.reg (dA [] 389006968)
def yg.t19:IR:=.reg (dA [] 80629000612449441517121745)
def yg.t22:IR:=.reg (dA [] 24)
def yg.t25:IR:=.seq yg.t17 (.seq (.seq yg.t18 (.cond aT8 yg.t19 .skip)) (.seq yg.t22 .ret))
def yg.t29:IR:=.seq yg.t10 (.seq yg.t11 (.seq yg.t12 (.seq (.seq yg.t13 (.cond aT7 yg.t14 .skip)) yg.t25)))
def yg.t32:IR:=.seq yg.t0 (.seq (.seq yg.t1 (.cond aT5 (.seq (.reg (dA [] 3183091371875202676258769)) .ret) .skip)) (.seq (.seq yg.t6 (.cond aT6 (.reg (dA [] 12871716111780526033)) .skip)) yg.t29))
def yg.b0:IR:=yg.t32
def yg.res:List RV:=[.t (.of 2)]
def yg:Fn:={ params:=[(.of 0),(.of 1)],res:=yg.res,body:=yg.b0,init:=in9 }
theorem yg.ok:fnA Tryz.prog Tryz.f128 [0,1,4,5,6,20,27,45,54]=some yg:=by kernel_rfl
abbrev ql.fr:=fr6
def ql.t0:IR:=.reg (dA [] 2071132900)
def ql.t1:IR:=.reg (dA [] 10488)
def ql.t2:IR:=.reg (dA [] 8952601910)
def ql.t3:IR:=.reg (dA [] 24013573533802)
def ql.t4:IR:=.reg (dA [] 19711717209042708449488499929)
def ql.t8:IR:=dI [] 5345911819063530256928710587416154867916422719669563181922615922
def ql.t13:IR:=.seq ql.t0 (.seq ql.t1 (.seq ql.t2 (.seq (.seq ql.t3 (.cond aT5 (.seq ql.t4 .ret) .skip)) (.seq ql.t8 .ret))))
def ql.b0:IR:=ql.t13
def ql.res:List RV:=[.cell (.of 1) (some 2),.cell (.of 2) (some 2)]
def ql:Fn:={ params:=[(.of 0)],res:=ql.res,body:=ql.b0,init:=in6 }
theorem ql.ok:fnA Tryz.prog Tryz.f129 [0,2,3,4,5,12]=some ql:=by kernel_rfl
abbrev yj.fr:=fr11
def yj.t0:IR:=.reg (dA [] 451366662958494)
def yj.t1:IR:=.reg (dA [] 5400884)
def yj.t2:IR:=dI [] 2143464632157796376811860506073308596137074
def yj.t5:IR:=.reg (dA [] 2090364306961528257969)
def yj.t6:IR:=.reg (dA [] 687950738061620014905032098)
def yj.t7:IR:=.reg (dA [] 346997683579846580389191074)
def yj.t8:IR:=.reg (dA [] 2348505556188509945985457)
def yj.zfo (r:List RO):List RO:=dA r 314415757
def yj.r6_1:List RO:=yj.zfo []
def yj.zfn (r:List RO):List RO:=dA r 973508427882448956120446016603733202
def yj.r6_0:List RO:=yj.zfn yj.r6_1
def yj.t9:IR:=.reg yj.r6_0
def yj.t10:IR:=.reg (dA [] 17848)
def yj.t14:IR:=.reg (dA [] 1376108172105547516155111807053249)
def yj.t15:IR:=.seq yj.t14 .ret
def yj.t20:IR:=.seq yj.t5 (.seq yj.t6 (.seq yj.t7 (.seq yj.t8 (.seq (.seq yj.t9 (.cond aT10 (.seq yj.t10 .ret) .skip)) yj.t15))))
def yj.t22:IR:=.seq yj.t0 (.seq (.seq yj.t1 (.cond aT9 yj.t2 .skip)) yj.t20)
def yj.b0:IR:=yj.t22
def yj.res:List RV:=[.t (.of 4)]
def yj:Fn:={ params:=[(.of 0),(.of 1)],res:=yj.res,body:=yj.b0,init:=in11 }
theorem yj.ok:fnA Tryz.prog Tryz.f130 [0,1,2,3,4,5,6,8,10,12,49]=some yj:=by kernel_rfl
abbrev yw.fr:=fr8
def yw.t0:IR:=.reg (dA [] 859962060)
def yw.t1:IR:=.reg (dA [] 100452530077402)
def yw.t2:IR:=.reg (dA [] 118149)
def yw.t6:IR:=.reg (dA [] 26429029157571450039906296871384777)
def yw.t7:IR:=.reg (dA [] 629224968715705)
def yw.t8:IR:=.reg (dA [] 94520856)
def yw.t11:IR:=.reg (dA [] 203369934413083487651710520710338)
def yw.t13:IR:=.reg (dA [] 140274742)
def yw.t15:IR:=.seq (.seq yw.t8 (.cond aT6 .skip (.exit 0))) (.seq (.block 1 yw.t11) yw.t13)
def yw.t16:IR:=.loop yw.t15
def yw.t19:IR:=.reg (dA [] 59926324)
def yw.t20:IR:=.reg (dA [] 1807281462)
def yw.t24:IR:=.reg (dA [] 152)
def yw.t30:IR:=.seq yw.t0 (.seq (.seq yw.t1 (.cond aT5 (.seq yw.t2 .ret) .skip)) (.seq yw.t6 (.seq (.seq yw.t7 (.block 0 yw.t16)) (.seq (.seq yw.t19 (.cond aT7 (.seq yw.t20 .ret) .skip)) (.seq yw.t24 .ret)))))
def yw.b0:IR:=yw.t30
def yw.res:List RV:=[.t (.of 2)]
def yw:Fn:={ params:=[(.of 0)],res:=yw.res,body:=yw.b0,init:=in8 }
theorem yw.ok:fnA Tryz.prog Tryz.f133 [0,1,2,3,4,8,23,35]=some yw:=by kernel_rfl
abbrev yu.fr:=fr7
def yu.t0:IR:=.reg (dA [] 128461)
def yu.t1:IR:=.reg [iQo 2 (.mv (.c .za))]
def yu.t2:IR:=.reg (dA [] 170782198)
def yu.t3:IR:=.reg (dA [] 95274744)
def yu.t6:IR:=.reg (dA [] 8920559094)
def yu.t7:IR:=.reg (dA [] 48121368)
def yu.t8:IR:=.reg (dA [] 68578358)
def yu.t11:IR:=.reg (dA [] 6241921828576616409)
def yu.t12:IR:=.reg (dA [] 13215673846)
def yu.t13:IR:=.seq yu.t11 yu.t12
def yu.t17:IR:=.seq (.seq yu.t3 (.cond aT5 .skip (.exit 0))) (.block 1 (.seq yu.t6 (.seq (.seq yu.t7 (.cond aT6 yu.t8 .skip)) yu.t13)))
def yu.t18:IR:=.loop yu.t17
def yu.t20:IR:=.reg (dA [] 69282853430489706)
def yu.t21:IR:=.seq yu.t20 .ret
def yu.t25:IR:=.seq yu.t0 (.seq yu.t1 (.seq yu.t2 (.seq (.block 0 yu.t18) yu.t21)))
def yu.b0:IR:=yu.t25
def yu.res:List RV:=[.cell (.of 1) (some 2)]
def yu:Fn:={ params:=[(.of 0)],res:=yu.res,body:=yu.b0,init:=in7 }
theorem yu.ok:fnA Tryz.prog Tryz.f134 [0,2,3,4,5,9,13]=some yu:=by kernel_rfl
abbrev F135.fr:=fr2
def F135.b0:IR:=dI [] 11757573783939239883700838668353341882435907719018751612906315767918716818775447
def F135.res:List RV:=[.t (.of 1)]
def F135:Fn:={ params:=[(.of 0)],res:=F135.res,body:=F135.b0,init:=in2 }
theorem F135.ok:fnA Tryz.prog Tryz.f135 [0,2]=some F135:=by kernel_rfl
abbrev F136.fr:=fr9
def F136.b0:IR:=dI [] 480100153557184955119309640752050996789285296463110679141699302771900550858073253414173203428844072581038026135
def F136.res:List RV:=[.t (.of 1)]
def F136:Fn:={ params:=[(.of 0)],res:=F136.res,body:=F136.b0,init:=in9 }
theorem F136.ok:fnA Tryz.prog Tryz.f136 [0,2,3,4,7,8,9,10,17]=some F136:=by kernel_rfl
abbrev F137.fr:=fr8
def F137.b0:IR:=dI [] 3208961385059710264313733410342238197137854087332358409689705875081304350661670793487612001335831
def F137.res:List RV:=[.t (.of 2)]
def F137:Fn:={ params:=[(.of 0),(.of 1)],res:=F137.res,body:=F137.b0,init:=in8 }
theorem F137.ok:fnA Tryz.prog Tryz.f137 [0,1,4,5,6,10,11,12]=some F137:=by kernel_rfl
abbrev F138.fr:=fr3
def F138.b0:IR:=dI [] 9412537836753606701171350637499762711287319
def F138.res:List RV:=[.t (.of 2)]
def F138:Fn:={ params:=[(.of 0),(.of 1)],res:=F138.res,body:=F138.b0,init:=in3 }
theorem F138.ok:fnA Tryz.prog Tryz.f138 [0,1,3]=some F138:=by kernel_rfl
abbrev F139.fr:=fr10
def F139.b0:IR:=dI [] 31094383861391734295388848008804231460331628789501673323954027144842663326150314092739397276102860132190598321396531
def F139.res:List RV:=[.t (.of 3)]
def F139:Fn:={ params:=[(.of 0),(.of 1)],res:=F139.res,body:=F139.b0,init:=in10 }
theorem F139.ok:fnA Tryz.prog Tryz.f139 [0,1,2,4,5,7,9,10,11,12]=some F139:=by kernel_rfl
abbrev F140.fr:=fr4
def F140.b0:IR:=dI [] 19997197067569860837937795968479577045605523187563595007667794127381224659537932631845425970052986180862237124302572117405617706365575394687075067457057197681700728042654177716728930252287121212993578186645359004864827762404147
def F140.res:List RV:=[.t (.of 2)]
def F140:Fn:={ params:=[(.of 0)],res:=F140.res,body:=F140.b0,init:=in4 }
theorem F140.ok:fnA Tryz.prog Tryz.f140 [0,1,2,28]=some F140:=by kernel_rfl
abbrev F141.fr:=fr1
def F141.b0:IR:=dI [] 5820117667867862046497859661216813277958052712856945557825923318898652190827236208276812558154380194762938306697085595373177899977416515546237740553195085292031242379960727
def F141.res:List RV:=[.t (.of 0)]
def F141:Fn:={ params:=[],res:=F141.res,body:=F141.b0,init:=in1 }
theorem F141.ok:fnA Tryz.prog Tryz.f141 [0]=some F141:=by kernel_rfl
abbrev F142.fr:=fr3
def F142.b0:IR:=dI [] 35372564401081739432919173686851099201695127
def F142.res:List RV:=[.t (.of 1)]
def F142:Fn:={ params:=[(.of 0)],res:=F142.res,body:=F142.b0,init:=in3 }
theorem F142.ok:fnA Tryz.prog Tryz.f142 [0,2,4]=some F142:=by kernel_rfl
abbrev F144.fr:=fr4
def F144.b0:IR:=dI [] 10656345230897669193822575291780761303493158471561720093491
def F144.res:List RV:=[.t (.of 3)]
def F144:Fn:={ params:=[(.of 0),(.of 1)],res:=F144.res,body:=F144.b0,init:=in4 }
theorem F144.ok:fnA Tryz.prog Tryz.f144 [0,1,2,4]=some F144:=by kernel_rfl
abbrev F145.fr:=fr19
def F145.b0:IR:=dI [] 9633001860197466646493033753635505639277425923983085101626136940356976376051754024238495573148781882319169192005991397290519185640752608581027982066973617552899664569067075675767820803216782441293316418097947483070053516804298576227240547950607734274387964707649154895703217174240150267471307961266786624649613007667
def F145.res:List RV:=[.t (.of 3)]
def F145:Fn:={ params:=[(.of 0),(.of 1)],res:=F145.res,body:=F145.b0,init:=in19 }
theorem F145.ok:fnA Tryz.prog Tryz.f145 [0,1,2,4,5,6,7,8,10,14,15,16,17,22,23,24,25,40,45]=some F145:=by kernel_rfl
abbrev F151.fr:=fr3
def F151.b0:IR:=dI [] 1816715540533162101950999
def F151.res:List RV:=[.t (.of 2)]
def F151:Fn:={ params:=[(.of 0),(.of 1)],res:=F151.res,body:=F151.b0,init:=in3 }
theorem F151.ok:fnA Tryz.prog Tryz.f151 [0,1,4]=some F151:=by kernel_rfl
abbrev F152.fr:=fr19
def F152.b0:IR:=dI [] 257974664375401428309562602921462748042241456982178190082890015467218251015734873307266356847699117393524220116136508952398235998663347867994620591303543582784383698926151588419155470737410789204596531301132657137099734389353072671499162896231274818424432813035020877271072594369660049353173108569710921263918411394887527287632952055011506919608152395497048515489730934127138289463
def F152.res:List RV:=[.cell (.of 2) (some 2)]
def F152:Fn:={ params:=[(.of 0),(.of 1)],res:=F152.res,body:=F152.b0,init:=in19 }
theorem F152.ok:fnA Tryz.prog Tryz.f152 [0,1,4,5,6,7,9,10,11,21,26,27,28,29,35,36,37,41,55]=some F152:=by kernel_rfl
abbrev F153.fr:=fr12
def F153.b0:IR:=dI [] 1942807041035412282634461860187804143980095279903771755495786172249631493774401618950444790414298052132325430075610311493642490861054135720362251026805094566962637222850048625170652177615669831776055
def F153.res:List RV:=[.cell (.of 2) (some 2)]
def F153:Fn:={ params:=[(.of 0),(.of 1)],res:=F153.res,body:=F153.b0,init:=in12 }
theorem F153.ok:fnA Tryz.prog Tryz.f153 [0,1,4,5,6,8,9,13,14,15,16,27]=some F153:=by kernel_rfl
abbrev F154.fr:=fr9
def F154.b0:IR:=dI [] 63681294653903410132499758951040848038590101552572808177291871186314317950019562331157826600611153844379958223764183859
def F154.res:List RV:=[.t (.of 3)]
def F154:Fn:={ params:=[(.of 0),(.of 1)],res:=F154.res,body:=F154.b0,init:=in9 }
theorem F154.ok:fnA Tryz.prog Tryz.f154 [0,1,3,4,5,6,7,8,9]=some F154:=by kernel_rfl
abbrev F155.fr:=fr9
def F155.b0:IR:=dI [] 1018900714462454562119996143216653568617441567001659362736586878118347384286694522625893136113804939916952118695286790963
def F155.res:List RV:=[.t (.of 3)]
def F155:Fn:={ params:=[(.of 0),(.of 1)],res:=F155.res,body:=F155.b0,init:=in9 }
theorem F155.ok:fnA Tryz.prog Tryz.f155 [0,1,3,4,5,6,7,8,9]=some F155:=by kernel_rfl
abbrev F168.fr:=fr4
def F168.b0:IR:=dI [] 4281016139138935501237992619931479811519412540067752063201547017913590920393176392162580218874736097778097168822295347
def F168.res:List RV:=[.t (.of 3)]
def F168:Fn:={ params:=[(.of 0),(.of 1)],res:=F168.res,body:=F168.b0,init:=in4 }
theorem F168.ok:fnA Tryz.prog Tryz.f168 [0,1,2,4]=some F168:=by kernel_rfl
abbrev F169.fr:=fr11
def F169.b0:IR:=dI [] 1225180411551367233851952306017800493002857041919416232152383200758530830957382009581025915367053989007719821533329626968098161947198833514629603733942738149640362074936210398136791919992471262569485901147959415983460213455197821747
def F169.res:List RV:=[.t (.of 3)]
def F169:Fn:={ params:=[(.of 0),(.of 1)],res:=F169.res,body:=F169.b0,init:=in11 }
theorem F169.ok:fnA Tryz.prog Tryz.f169 [0,1,2,4,5,6,7,12,13,14,15]=some F169:=by kernel_rfl
abbrev F170.fr:=fr3
def F170.b0:IR:=dI [] 515295534425013678000255349353879
def F170.res:List RV:=[.t (.of 1)]
def F170:Fn:={ params:=[(.of 0)],res:=F170.res,body:=F170.b0,init:=in3 }
theorem F170.ok:fnA Tryz.prog Tryz.f170 [0,2,3]=some F170:=by kernel_rfl
abbrev F171.fr:=fr3
def F171.b0:IR:=dI [] 116203252702025829688273715
def F171.res:List RV:=[.t (.of 2)]
def F171:Fn:={ params:=[(.of 0)],res:=F171.res,body:=F171.b0,init:=in3 }
theorem F171.ok:fnA Tryz.prog Tryz.f171 [0,1,2]=some F171:=by kernel_rfl
abbrev aV.fr:=fr3
def aV.b0:IR:=dI [] 1816715540093357450840599
def aV.res:List RV:=[.t (.of 2)]
def aV:Fn:={ params:=[(.of 0),(.of 1)],res:=aV.res,body:=aV.b0,init:=in3 }
theorem aV.ok:fnA Tryz.prog Tryz.f173 [0,1,4]=some aV:=by kernel_rfl
abbrev aU.fr:=fr4
def aU.b0:IR:=dI [] 17605182609578324419049982431159919275906711
def aU.res:List RV:=[.t (.of 3)]
def aU:Fn:={ params:=[(.of 0),(.of 1),(.of 2)],res:=aU.res,body:=aU.b0,init:=in4 }
theorem aU.ok:fnA Tryz.prog Tryz.f174 [0,1,2,4]=some aU:=by kernel_rfl
abbrev aT.fr:=fr3
def aT.b0:IR:=dI [] 1816715540629919125195287
def aT.res:List RV:=[.t (.of 2)]
def aT:Fn:={ params:=[(.of 0),(.of 1)],res:=aT.res,body:=aT.b0,init:=in3 }
theorem aT.ok:fnA Tryz.prog Tryz.f175 [0,1,4]=some aT:=by kernel_rfl
abbrev aS.fr:=fr3
def aS.b0:IR:=dI [] 442944290964056164887
def aS.res:List RV:=[.t (.of 2)]
def aS:Fn:={ params:=[(.of 0),(.of 1)],res:=aS.res,body:=aS.b0,init:=in3 }
theorem aS.ok:fnA Tryz.prog Tryz.f176 [0,1,3]=some aS:=by kernel_rfl
abbrev xu.fr:=fr9
def xu.b4:IR:=dI [] 33691353502660443682274553069922034298122631648555404812323449280437702004308087
def xu.b3:IR:=(.loop xu.b4)
def xu.g2 (X3:IR):IR:=(.block 0 X3)
def xu.b2:IR:=xu.g2 xu.b3
def xu.b9:IR:=dI [] 418327
def xu.b0:IR:=dI [xu.b2,xu.b9] 16043072971748154487331360801813264661779237399
def xu.res:List RV:=[.t (.of 2)]
def xu:Fn:={ params:=[(.of 0),(.of 1)],res:=xu.res,body:=xu.b0,init:=in9 }
theorem xu.ok:fnA Tryz.prog Tryz.f177 [0,1,4,5,10,12,13,14,24]=some xu:=by kernel_rfl
abbrev F178.fr:=fr9
def F178.b0:IR:=dI [] 7245179752937261065615189185135469277644005645224274813175321146557737123399874365285641134523469554506547
def F178.res:List RV:=[.t (.of 3)]
def F178:Fn:={ params:=[(.of 0),(.of 1)],res:=F178.res,body:=F178.b0,init:=in9 }
theorem F178.ok:fnA Tryz.prog Tryz.f178 [0,1,3,4,5,7,8,9,16]=some F178:=by kernel_rfl
abbrev F179.fr:=fr3
def F179.b0:IR:=dI [] 1816715539424854381152791
def F179.res:List RV:=[.t (.of 2)]
def F179:Fn:={ params:=[(.of 0),(.of 1)],res:=F179.res,body:=F179.b0,init:=in3 }
theorem F179.ok:fnA Tryz.prog Tryz.f179 [0,1,4]=some F179:=by kernel_rfl
abbrev F180.fr:=fr3
def F180.b0:IR:=dI [] 35954375138849968025429575896874502032992799539325747
def F180.res:List RV:=[.t (.of 2)]
def F180:Fn:={ params:=[(.of 0)],res:=F180.res,body:=F180.b0,init:=in3 }
theorem F180.ok:fnA Tryz.prog Tryz.f180 [0,1,2]=some F180:=by kernel_rfl
abbrev F181.fr:=fr9
def F181.b0:IR:=dI [] 17197884588090881576446256118590815647128143902995766611746760130713525206102588750880305349832957239404081909566962028468039063
def F181.res:List RV:=[.t (.of 1)]
def F181:Fn:={ params:=[(.of 0)],res:=F181.res,body:=F181.b0,init:=in9 }
theorem F181.ok:fnA Tryz.prog Tryz.f181 [0,2,3,4,5,9,10,11,12]=some F181:=by kernel_rfl
abbrev nV.fr:=fr3
def nV.t0:IR:=.reg (dA [] 4741)
def nV.t1:IR:=.reg (dA [] 25381555370846169)
def nV.t3:IR:=.seq nV.t0 (.seq nV.t1 .ret)
def nV.b0:IR:=nV.t3
def nV.res:List RV:=[.t (.of 2)]
def nV:Fn:={ params:=[(.of 0),(.of 1)],res:=nV.res,body:=nV.b0,init:=in3 }
theorem nV.ok:fnA Tryz.prog Tryz.f182 [0,1,4]=some nV:=by kernel_rfl
abbrev F183.fr:=fr2
def F183.b0:IR:=dI [] 15342958886934451469376919
def F183.res:List RV:=[.t (.of 1)]
def F183:Fn:={ params:=[(.of 0)],res:=F183.res,body:=F183.b0,init:=in2 }
theorem F183.ok:fnA Tryz.prog Tryz.f183 [0,2]=some F183:=by kernel_rfl
abbrev xw.fr:=fr8
def xw.b3:IR:=dI [] 91168370079111590760013481063029987684993887850055996903777399
def xw.b2:IR:=(.loop xw.b3)
def xw.g1 (X2:IR):IR:=(.block 0 X2)
def xw.b1:IR:=xw.g1 xw.b2
def xw.b8:IR:=dI [] 3312151
def xw.b0:IR:=dI [xw.b1,xw.b8] 103675920249878173207
def xw.res:List RV:=[.t (.of 2)]
def xw:Fn:={ params:=[(.of 0),(.of 1)],res:=xw.res,body:=xw.b0,init:=in8 }
theorem xw.ok:fnA Tryz.prog Tryz.f184 [0,1,4,5,7,8,9,16]=some xw:=by kernel_rfl
abbrev F185.fr:=fr3
def F185.b0:IR:=dI [] 1817943775271632584821271
def F185.res:List RV:=[.t (.of 2)]
def F185:Fn:={ params:=[(.of 0),(.of 1)],res:=F185.res,body:=F185.b0,init:=in3 }
theorem F185.ok:fnA Tryz.prog Tryz.f185 [0,1,3]=some F185:=by kernel_rfl
abbrev fM.fr:=fr3
def fM.t0:IR:=.reg (dA [] 3605396172)
def fM.t1:IR:=dI [] 263384880545355372784686446081714
def fM.t3:IR:=.seq fM.t0 (.seq fM.t1 .ret)
def fM.b0:IR:=fM.t3
def fM.res:List RV:=[.cell (.of 2) (some 4)]
def fM:Fn:={ params:=[(.of 0)],res:=fM.res,body:=fM.b0,init:=in3 }
theorem fM.ok:fnA Tryz.prog Tryz.f186 [0,1,2]=some fM:=by kernel_rfl
abbrev fK.fr:=fr2
def fK.t0:IR:=.reg (dA [] 30157)
def fK.t1:IR:=.reg (dA [] 2114387951094)
def fK.t3:IR:=.seq fK.t0 (.seq fK.t1 .ret)
def fK.b0:IR:=fK.t3
def fK.res:List RV:=[.cell (.of 1) (some 2)]
def fK:Fn:={ params:=[(.of 0)],res:=fK.res,body:=fK.b0,init:=in2 }
theorem fK.ok:fnA Tryz.prog Tryz.f187 [0,2]=some fK:=by kernel_rfl
abbrev F188.fr:=fr18
def F188.b0:IR:=dI [] 500102915348687664202874054268712672006501522154553902564125760487254169172007293169214808415533879651554437389577549821201267615693588649591025609673377580661769611414524191802827292757696653361010567121493652912271630141823778155456535395570592239005767770252395133443785397858440301935191771008603133093901065510820423909276466734149333161923956250756961916708003691456291667884632883
def F188.res:List RV:=[.t (.of 2)]
def F188:Fn:={ params:=[(.of 0)],res:=F188.res,body:=F188.b0,init:=in18 }
theorem F188.ok:fnA Tryz.prog Tryz.f188 [0,1,2,3,4,5,6,7,8,9,10,11,14,26,35,42,54,60]=some F188:=by kernel_rfl
abbrev qb.fr:=fr4
def qb.t0:IR:=.reg [iQo 1 (.mv (.c (.str [])))]
def qb.t1:IR:=.reg (dA [] 25154918800886)
def qb.t2:IR:=.reg (dA [] 739462646)
def qb.t6:IR:=.reg (dA [] 100505825041910)
def qb.t7:IR:=.reg (dA [] 22776)
def qb.t11:IR:=.reg (dA [] 190785842678)
def qb.t15:IR:=.seq qb.t0 (.seq (.seq qb.t1 (.cond aT2 (.seq qb.t2 .ret) .skip)) (.seq (.seq qb.t6 (.cond aT3 (.seq qb.t7 .ret) .skip)) (.seq qb.t11 .ret)))
def qb.b0:IR:=qb.t15
def qb.res:List RV:=[.t (.of 1)]
def qb:Fn:={ params:=[(.of 0)],res:=qb.res,body:=qb.b0,init:=in4 }
theorem qb.ok:fnA Tryz.prog Tryz.f189 [0,2,5,10]=some qb:=by kernel_rfl
abbrev zb.fr:=fr19
def zb.t0:IR:=.reg (dA [] 15211952)
def zb.t1:IR:=.reg (dA [] 13254122998)
def zb.t2:IR:=.reg [iQo 3 (.mv (.c .za))]
def zb.t3:IR:=.reg [iQo 4 (.mv aC0)]
def zb.zfq (r:List RO):List RO:=dA r 25948373010981506267063841081333749551554418
def zb.r4_1:List RO:=zb.zfq []
def zb.zfp (r:List RO):List RO:=dA r 46253668406
def zb.r4_0:List RO:=zb.zfp zb.r4_1
def zb.t4:IR:=.reg zb.r4_0
def zb.t5:IR:=.cond aT12 .skip (.exit 0)
def zb.t7:IR:=.reg (dA [] 3724598)
def zb.zun (r:List RO):List RO:=dA r 1248937613
def zb.r6_2:List RO:=zb.zun []
def zb.zfo (r:List RO):List RO:=dA r 210931330105927050881092342289191609
def zb.r6_1:List RO:=zb.zfo zb.r6_2
def zb.zfn (r:List RO):List RO:=dA r 310546369321136968683549609938
def zb.r6_0:List RO:=zb.zfn zb.r6_1
def zb.t8:IR:=.reg zb.r6_0
def zb.t11:IR:=.reg (dA [] 475880438)
def zb.t13:IR:=.seq (.seq zb.t8 (.cond aT13 .skip (.exit 2))) (.block 3 zb.t11)
def zb.t14:IR:=.loop zb.t13
def zb.t16:IR:=.reg (dA [] 96007780820970)
def zb.t19:IR:=.reg (dA [] 4773174)
def zb.t20:IR:=dI [] 754239719859329063463147795470158486776945724828188890039588277392322255474
def zb.t21:IR:=.reg (dA [] 544861843901305497153398722)
def zb.t22:IR:=.reg [iQo 8 (.mv aC0)]
def zb.t23:IR:=.reg (dA [] 70788865492820998204865)
def zb.t26:IR:=dI [] 5490602954529017770029412519425478933238018158997324680621776280594864754
def zb.t28:IR:=.reg (dA [] 4172987254)
def zb.t30:IR:=.seq (.seq zb.t23 (.cond aT15 .skip (.exit 4))) (.seq (.block 5 zb.t26) zb.t28)
def zb.t31:IR:=.loop zb.t30
def zb.t34:IR:=.reg [iQo 9 (.mv aC0)]
def zb.t35:IR:=.reg (dA [] 96632927934314)
def zb.t38:IR:=.reg (dA [] 451691131836499978194)
def zb.t39:IR:=.reg (dA [] 31476425973009360217410408132289)
def zb.t42:IR:=.reg [iQo 11 (.mv aC0)]
def zb.t43:IR:=.reg (dA [] 141622694924321683376321)
def zb.t46:IR:=dI [] 489778151911639018669947497735702681191027626520005307785814509062738166244998213295410085175484954141573624645966450
def zb.t48:IR:=.reg (dA [] 2025501238)
def zb.t50:IR:=.seq (.seq zb.t43 (.cond aT18 .skip (.exit 8))) (.seq (.block 9 zb.t46) zb.t48)
def zb.t51:IR:=.loop zb.t50
def zb.t57:IR:=.reg (dA [] 146455478)
def zb.t59:IR:=.seq (.seq zb.t35 (.cond aT16 .skip (.exit 6))) (.seq (.block 7 (.seq zb.t38 (.seq (.seq zb.t39 (.cond aT17 (.exit 7) .skip)) (.seq zb.t42 (.block 8 zb.t51))))) zb.t57)
def zb.t60:IR:=.loop zb.t59
def zb.t63:IR:=.reg (dA [] 187588401651383821529)
def zb.t69:IR:=.seq (.seq zb.t16 (.cond aT14 (.exit 1) .skip)) (.seq zb.t19 (.seq zb.t20 (.seq zb.t21 (.seq (.seq zb.t22 (.block 4 zb.t31)) (.seq (.seq zb.t34 (.block 6 zb.t60)) zb.t63)))))
def zb.t73:IR:=.reg (dA [] 70167606)
def zb.t74:IR:=.seq (.block 1 (.seq zb.t7 (.seq (.block 2 zb.t14) zb.t69))) zb.t73
def zb.t75:IR:=.seq (.seq zb.t4 zb.t5) zb.t74
def zb.t76:IR:=.loop zb.t75
def zb.t79:IR:=.reg (dA [] 2128402415679596481)
def zb.t80:IR:=.seq zb.t79 .ret
def zb.t84:IR:=.seq zb.t0 (.seq zb.t1 (.seq zb.t2 (.seq (.seq zb.t3 (.block 0 zb.t76)) zb.t80)))
def zb.b0:IR:=zb.t84
def zb.res:List RV:=[.t (.of 1),.t (.of 2)]
def zb:Fn:={ params:=[(.of 0)],res:=zb.res,body:=zb.b0,init:=in19 }
theorem zb.ok:fnA Tryz.prog Tryz.f190 [0,2,3,4,5,6,7,8,9,10,11,12,25,43,49,80,101,117,124]=some zb:=by kernel_rfl
abbrev gm.fr:=fr6
def gm.t0:IR:=.reg (dA [] 4741)
def gm.t1:IR:=.reg [iQo 3 (.mv aC0)]
def gm.t2:IR:=.reg (dA [] 1505500721770)
def gm.t5:IR:=.reg (dA [] 553436770766317521)
def gm.t6:IR:=.reg (dA [] 6277)
def gm.t11:IR:=.reg (dA [] 170831158)
def gm.t13:IR:=.seq (.seq gm.t2 (.cond aT4 .skip (.exit 0))) (.seq (.block 1 (.seq gm.t5 (.cond aT5 (.seq gm.t6 .ret) .skip))) gm.t11)
def gm.t14:IR:=.loop gm.t13
def gm.t17:IR:=.reg (dA [] 4741)
def gm.t20:IR:=.seq gm.t0 (.seq (.seq gm.t1 (.block 0 gm.t14)) (.seq gm.t17 .ret))
def gm.b0:IR:=gm.t20
def gm.res:List RV:=[.t (.of 2)]
def gm:Fn:={ params:=[(.of 0),(.of 1)],res:=gm.res,body:=gm.b0,init:=in6 }
theorem gm.ok:fnA Tryz.prog Tryz.f191 [0,1,4,5,9,17]=some gm:=by kernel_rfl
abbrev nR.fr:=fr5
def nR.t0:IR:=.reg (dA [] 1842317591571870)
def nR.t1:IR:=dI [] 249941685011522385874480024060554866
def nR.t3:IR:=.seq nR.t0 (.seq nR.t1 .ret)
def nR.b0:IR:=nR.t3
def nR.res:List RV:=[.cell (.of 4) (some 4)]
def nR:Fn:={ params:=[(.of 0),(.of 1)],res:=nR.res,body:=nR.b0,init:=in5 }
theorem nR.ok:fnA Tryz.prog Tryz.f192 [0,1,2,3,4]=some nR:=by kernel_rfl
abbrev bf.fr:=fr6
def bf.t0:IR:=.reg (dA [] 921041612)
def bf.t1:IR:=.reg (dA [] 3188470586117608943648767060632766676402)
def bf.t2:IR:=.reg (dA [] 146863980194083846585)
def bf.t11:IR:=.seq bf.t0 (.seq (.seq bf.t1 (.cond aT5 (.seq bf.t2 .ret) .skip)) (.seq (.reg (dA [] 9712759664642055010209)) (.seq (.reg (dA [] 587454478931118339289)) .ret)))
def bf.b0:IR:=bf.t11
def bf.res:List RV:=[.cell (.of 2) (some 2)]
def bf:Fn:={ params:=[(.of 0)],res:=bf.res,body:=bf.b0,init:=in6 }
theorem bf.ok:fnA Tryz.prog Tryz.f193 [0,1,2,3,4,12]=some bf:=by kernel_rfl
abbrev ng.fr:=fr3
def ng.t0:IR:=.reg (dA [] 46267084)
def ng.t1:IR:=.reg (dA [] 392424871383281908153)
def ng.t3:IR:=.seq ng.t0 (.seq ng.t1 .ret)
def ng.b0:IR:=ng.t3
def ng.res:List RV:=[.t (.of 2)]
def ng:Fn:={ params:=[(.of 0)],res:=ng.res,body:=ng.b0,init:=in3 }
theorem ng.ok:fnA Tryz.prog Tryz.f194 [0,1,2]=some ng:=by kernel_rfl
abbrev jr.fr:=fr8
def jr.t0:IR:=.reg (dA [] 1842317591571870)
def jr.t1:IR:=.reg (dA [] 6458760570031598)
def jr.t2:IR:=dI [] 2143464632157796371069462777335427096243314
def jr.t5:IR:=.reg (dA [] 49824395155190938174611474899059776946)
def jr.t6:IR:=.reg (dA [] 2587936003232527547354)
def jr.t10:IR:=.reg (dA [] 76626785426856994734602169)
def jr.t11:IR:=dI [] 18885059811948586748711582928674486558743049452147481373874
def jr.t13:IR:=.seq jr.t10 (.seq jr.t11 .ret)
def jr.t14:IR:=.seq (.seq jr.t5 (.cond aT7 (.seq jr.t6 .ret) .skip)) jr.t13
def jr.t16:IR:=.seq jr.t0 (.seq (.seq jr.t1 (.cond aT6 jr.t2 .skip)) jr.t14)
def jr.b0:IR:=jr.t16
def jr.res:List RV:=[.cell (.of 4) (some 4)]
def jr:Fn:={ params:=[(.of 0),(.of 1)],res:=jr.res,body:=jr.b0,init:=in8 }
theorem jr.ok:fnA Tryz.prog Tryz.f195 [0,1,2,3,4,5,8,20]=some jr:=by kernel_rfl
abbrev xg.fr:=fr3
def xg.t0:IR:=.reg [iQo 1 (.mv aC0)]
def xg.t1:IR:=.reg (dA [] 6124131830)
def xg.t2:IR:=.reg [iQo 1 (.mv aC0)]
def xg.t6:IR:=.reg (dA [] 12209496676313)
def xg.t9:IR:=.seq xg.t0 (.seq (.seq xg.t1 (.cond aT2 (.seq xg.t2 .ret) .skip)) (.seq xg.t6 .ret))
def xg.b0:IR:=xg.t9
def xg.res:List RV:=[.t (.of 1)]
def xg:Fn:={ params:=[(.of 0)],res:=xg.res,body:=xg.b0,init:=in3 }
theorem xg.ok:fnA Tryz.prog Tryz.f196 [0,2,5]=some xg:=by kernel_rfl
abbrev qz.fr:=fr14
def qz.t0:IR:=.reg (dA [] 434942708018590)
def qz.t1:IR:=.reg (dA [] 1594145571554171242639954440596517551538)
def qz.t2:IR:=.reg (dA [] 127626349715126705)
def qz.t3:IR:=.reg (dA [] 2433207668058528151144083599314)
def qz.t4:IR:=.reg (dA [] 930241018870)
def qz.t30:IR:=.seq qz.t0 (.seq (.seq qz.t1 (.cond aT10 (.seq qz.t2 (.seq qz.t3 (.cond aT11 (.seq qz.t4 .ret) .skip))) .skip)) (.seq (.reg (dA [] 265505085272569528973217)) (.seq (.reg (dA [] 20061383089993113483169)) (.seq (.block 0 (.seq (.reg (dA [] 59403046153066)) (.cond aT12 (.seq (.reg (dA [] 1047376320792463729661630161)) .ret) (.seq (.reg (dA [] 39402383607117831385)) (.cond aT13 (.seq (.reg (dA [] 1047376320792464004539537105)) .ret) .skip))))) (.seq (.reg (dA [] 2094752641584928009442143697)) .ret)))))
def qz.b0:IR:=qz.t30
def qz.res:List RV:=[.cell (.of 4) (some 2)]
def qz:Fn:={ params:=[(.of 0),(.of 1)],res:=qz.res,body:=qz.b0,init:=in14 }
theorem qz.ok:fnA Tryz.prog Tryz.f197 [0,1,2,3,4,5,6,7,8,9,17,30,43,52]=some qz:=by kernel_rfl
abbrev uj.fr:=fr14
def uj.t0:IR:=.reg (dA [] 434942708018590)
def uj.t1:IR:=.reg (dA [] 3188315706842685230117158606571646746034)
def uj.t2:IR:=dI [] 157864587298903072037369752190414849306960775869136893082226
def uj.t3:IR:=.reg (dA [] 3029499468645579261117991990554577)
def uj.t4:IR:=.reg (dA [] 2395526899518982958432123297)
def uj.t5:IR:=.reg (dA [] 31213708982667310809)
def uj.t9:IR:=.reg (dA [] 7620534420831082)
def uj.t24:IR:=.seq uj.t0 (.seq (.seq uj.t1 (.cond aT11 (.seq uj.t2 (.seq uj.t3 (.cond aT12 (.seq (.seq uj.t4 (.cond aT13 (.seq uj.t5 .ret) .skip)) (.seq uj.t9 .ret)) .skip))) .skip)) (.seq (.reg (dA [] 586718239828073951262625)) (.seq (.reg (dA [] 114232011586280374482849)) (.seq (.reg (dA [] 140576470137763733474696990282407122)) .ret))))
def uj.b0:IR:=uj.t24
def uj.res:List RV:=[.cell (.of 4) (some 2)]
def uj:Fn:={ params:=[(.of 0),(.of 1)],res:=uj.res,body:=uj.b0,init:=in14 }
theorem uj.ok:fnA Tryz.prog Tryz.f198 [0,1,2,3,4,5,6,7,8,9,10,18,34,41]=some uj:=by kernel_rfl
abbrev ji.fr:=fr8
def ji.t0:IR:=.reg [iQo 2 (.mv aC0)]
def ji.t1:IR:=.reg (dA [] 1535469046)
def ji.t2:IR:=.reg (dA [] 3143965)
def ji.t4:IR:=.reg (dA [] 20984)
def ji.t5:IR:=.reg (dA [] 112650362831948764931025)
def ji.t6:IR:=.reg (dA [] 152)
def ji.t12:IR:=.reg (dA [] 29745068)
def ji.t15:IR:=.seq ji.t2 (.seq (.cond aT6 .skip (.exit 0)) (.seq (.block 1 (.seq ji.t4 (.seq ji.t5 (.cond aT7 (.seq ji.t6 .ret) .skip)))) ji.t12))
def ji.t16:IR:=.loop ji.t15
def ji.t19:IR:=.reg [iQo 2 (.mv (.c (I (-1))))]
def ji.t22:IR:=.seq ji.t0 (.seq (.seq ji.t1 (.block 0 ji.t16)) (.seq ji.t19 .ret))
def ji.b0:IR:=ji.t22
def ji.res:List RV:=[.t (.of 2)]
def ji:Fn:={ params:=[(.of 0),(.of 1)],res:=ji.res,body:=ji.b0,init:=in8 }
theorem ji.ok:fnA Tryz.prog Tryz.f199 [0,1,4,5,7,8,9,16]=some ji:=by kernel_rfl
abbrev nT.fr:=fr5
def nT.t0:IR:=.reg (dA [] 24756151381406)
def nT.t1:IR:=dI [] 1323605851770065916035142660866503389728923932442641730658052345133682
def nT.t3:IR:=.seq nT.t0 (.seq nT.t1 .ret)
def nT.b0:IR:=nT.t3
def nT.res:List RV:=[.t (.of 4)]
def nT:Fn:={ params:=[(.of 0),(.of 1)],res:=nT.res,body:=nT.b0,init:=in5 }
theorem nT.ok:fnA Tryz.prog Tryz.f200 [0,1,2,3,4]=some nT:=by kernel_rfl
abbrev gu.fr:=fr18
def gu.t0:IR:=.reg (dA [] 30393411970725829434)
def gu.tH (r:List RO):List RO:=dA r 1484714771873735888896633688921
def gu.eF:List RO:=gu.tH []
def gu.tF (r:List RO):List RO:=dA r 49821810626145258823369822537921854898
def gu.tX:List RO:=gu.tF gu.eF
def gu.t1:IR:=.reg gu.tX
def gu.t2:IR:=dI [] 2410917613746687741780543811115994836400036686035570
def gu.t3:IR:=.reg (dA [] 770805656)
def gu.t4:IR:=dI [] 16730364973290654266418164206515378
def gu.t7:IR:=.reg (dA [] 4904132854833375449242793681)
def gu.t29:IR:=.seq gu.t0 (.seq (.seq gu.t1 (.cond aT15 (.seq gu.t2 (.seq (.seq gu.t3 (.cond aT16 gu.t4 .skip)) (.seq gu.t7 .ret))) .skip)) (.seq (.reg (dA [] 40122766179986227328929)) (.seq (.reg (dA [] 60243003368550944290721)) (.seq (.reg (dA [] 522744859525397039006985938)) (.seq (.reg (dA [] 911077796559129458246961819745137220682557889623881)) (.seq (.seq (.reg (dA [] 824830903174413806)) (.cond aT17 (.sD [] [((.s (.zk 2 aT13)),1,[]),((.s (.zk 2 aT14)),2,[]),((.s (.zk 2 aT3)),2,[]),((iCa 187 [aC1]),0,[]),((iCa 266 [aS3,aS0]),0,[]),((iCa 197 [aS3,aS2]),0,[]),((.w .none none (.store 2 aT13 aS1)),0,[]),((.w .none none (.store 2 aT14 aS0)),0,[])]) .skip)) (.seq (.sD [] [((.s (.zk 2 aT13)),0,[]),((.s (.zk 2 aT14)),1,[]),((.w .none none (.store 2 aT4 aS1)),0,[]),((.w .none none (.store 2 aT5 aS0)),0,[])]) .ret)))))))
def gu.b0:IR:=gu.t29
def gu.res:List RV:=[.cell (.of 4) (some 2),.cell (.of 5) (some 2)]
def gu:Fn:={ params:=[(.of 0),(.of 1)],res:=gu.res,body:=gu.b0,init:=in18 }
theorem gu.ok:fnA Tryz.prog Tryz.f201 [0,1,2,3,4,5,6,7,8,9,11,12,13,14,15,28,40,75]=some gu:=by kernel_rfl
abbrev uh.fr:=fr5
def uh.t0:IR:=.reg [iQo 1 (.mv (.c (.str [])))]
def uh.t1:IR:=.reg (dA [] 118149)
def uh.t2:IR:=.reg [iQo 3 (.mv aC0)]
def uh.t3:IR:=.reg (dA [] 1505500721770)
def uh.t6:IR:=.reg (dA [] 1134659108566077005761)
def uh.t8:IR:=.reg (dA [] 170831158)
def uh.t10:IR:=.seq (.seq uh.t3 (.cond aT4 .skip (.exit 0))) (.seq (.block 1 uh.t6) uh.t8)
def uh.t11:IR:=.loop uh.t10
def uh.t14:IR:=.reg (dA [] 46072)
def uh.t18:IR:=.seq uh.t0 (.seq uh.t1 (.seq (.seq uh.t2 (.block 0 uh.t11)) (.seq uh.t14 .ret)))
def uh.b0:IR:=uh.t18
def uh.res:List RV:=[.t (.of 1)]
def uh:Fn:={ params:=[(.of 0)],res:=uh.res,body:=uh.b0,init:=in5 }
theorem uh.ok:fnA Tryz.prog Tryz.f202 [0,2,3,4,8]=some uh:=by kernel_rfl
abbrev fG.fr:=fr4
def fG.t0:IR:=.reg [iQo 1 (.mv (.c (.str [])))]
def fG.t1:IR:=.reg (dA [] 3220724901819605427505290839508088770)
def fG.t2:IR:=.reg (dA [] 794358376094669786)
def fG.t5:IR:=.seq fG.t0 (.seq fG.t1 (.seq fG.t2 .ret))
def fG.b0:IR:=fG.t5
def fG.res:List RV:=[.t (.of 1)]
def fG:Fn:={ params:=[(.of 0)],res:=fG.res,body:=fG.b0,init:=in4 }
theorem fG.ok:fnA Tryz.prog Tryz.f203 [0,2,3,4]=some fG:=by kernel_rfl
abbrev fZ.fr:=fr2
def fZ.t0:IR:=.reg (dA [] 19301)
def fZ.t1:IR:=.reg (dA [] 204489055715181688785)
def fZ.t3:IR:=.seq fZ.t0 (.seq fZ.t1 .ret)
def fZ.b0:IR:=fZ.t3
def fZ.res:List RV:=[.t (.of 1)]
def fZ:Fn:={ params:=[(.of 0)],res:=fZ.res,body:=fZ.b0,init:=in2 }
theorem fZ.ok:fnA Tryz.prog Tryz.f204 [0,2]=some fZ:=by kernel_rfl
abbrev ja.fr:=fr6
def ja.t0:IR:=.reg (dA [] 128461)
def ja.t1:IR:=.reg (dA [] 199287321298273507519002241403975768002)
def ja.t2:IR:=.reg [iQo 4 (.mv aT2)]
def ja.t3:IR:=.reg (dA [] 202591734)
def ja.t6:IR:=.reg [iQo 3 (.mv (.c .za))]
def ja.t7:IR:=.reg (dA [] 1607778993654)
def ja.t10:IR:=.reg (dA [] 56948720516174104124157228221512902834623305)
def ja.t11:IR:=.reg (dA [] 237408604220782536657)
def ja.t14:IR:=.seq (.seq ja.t7 (.cond aT5 .skip (.exit 0))) (.block 1 (.seq ja.t10 ja.t11))
def ja.t15:IR:=.loop ja.t14
def ja.t17:IR:=.reg (dA [] 10469818915861690168784463987730869968850)
def ja.t20:IR:=.seq ja.t6 (.seq (.block 0 ja.t15) (.seq ja.t17 .ret))
def ja.t23:IR:=.seq ja.t0 (.seq ja.t1 (.seq (.seq ja.t2 (.cond aT4 ja.t3 .skip)) ja.t20))
def ja.b0:IR:=ja.t23
def ja.res:List RV:=[.cell (.of 1) (some 2)]
def ja:Fn:={ params:=[(.of 0)],res:=ja.res,body:=ja.b0,init:=in6 }
theorem ja.ok:fnA Tryz.prog Tryz.f205 [0,2,3,4,13,18]=some ja:=by kernel_rfl
end
end Go.Ev
