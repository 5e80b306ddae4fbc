import Derived.Test.YtfgpjkchdelphaaGreatDoorIrA
import Derived.Test.YtfgpjkchdelphaaGreatDoorEvC
import Derived.Test.YtfgpjkchdelphaaGreatDoorProg
import Derived.KernelRfl
set_option linter.unusedSimpArgs false
set_option linter.unusedVariables false
namespace Go.Ev
open Go Go.Proofs
set_option maxRecDepth 100000
noncomputable section

abbrev jm.fr:=fr11
def jm.t0:IR:=.reg (dA [] 777373)
def jm.t1:IR:=.reg (dA [] 3221406671652)
def jm.t2:IR:=.reg (dA [] 350617117)
def jm.t4:IR:=.reg (dA [] 291998568503700301193704137)
def jm.t5:IR:=.reg (dA [] 204624426231984492)
def jm.t6:IR:=dI [] 5879860331559067820460469597414034303994003576280004801365432329290866
def jm.t11:IR:=.reg (dA [] 194504030)
def jm.t14:IR:=.seq jm.t2 (.seq (.cond aT9 .skip (.exit 0)) (.seq (.block 1 (.seq jm.t4 (.seq jm.t5 (.cond aT10 jm.t6 .skip)))) jm.t11))
def jm.t15:IR:=.loop jm.t14
def jm.t18:IR:=.seq jm.t0 (.seq jm.t1 (.block 0 jm.t15))
def jm.b0:IR:=jm.t18
def jm.res:List RV:=[]
def jm:Fn:={ params:=[(.of 0),(.of 1),(.of 2)],res:=jm.res,body:=jm.b0,init:=in11 }
theorem jm.ok:fnA Tryz.prog Tryz.f106 [0,1,2,4,6,7,8,9,10,11,17]=some jm:=by kernel_rfl
abbrev bV.fr:=fr3
def bV.t0:IR:=.reg (dA [] 1981086286)
def bV.t1:IR:=dI [] 34940403072691295308878039534162924494826546
def bV.t3:IR:=.seq bV.t0 (.seq bV.t1 .ret)
def bV.b0:IR:=bV.t3
def bV.res:List RV:=[.cell (.of 2) (some 4)]
def bV:Fn:={ params:=[(.of 0)],res:=bV.res,body:=bV.b0,init:=in3 }
theorem bV.ok:fnA Tryz.prog Tryz.f107 [0,1,2]=some bV:=by kernel_rfl
abbrev yt.fr:=fr8
def yt.t0:IR:=.reg [iQo 2 (.mv aC0)]
def yt.t1:IR:=.reg (dA [] 1568984308)
def yt.t2:IR:=.reg (dA [] 65534237)
def yt.t4:IR:=.reg (dA [] 20730)
def yt.t5:IR:=.reg (dA [] 6486961309293336456137)
def yt.t6:IR:=.reg (dA [] 26)
def yt.t12:IR:=.reg (dA [] 46911326)
def yt.t15:IR:=.seq yt.t2 (.seq (.cond aT6 .skip (.exit 0)) (.seq (.block 1 (.seq yt.t4 (.seq yt.t5 (.cond aT7 (.seq yt.t6 .ret) .skip)))) yt.t12))
def yt.t16:IR:=.loop yt.t15
def yt.t19:IR:=.reg [iQo 2 (.mv (.c (I (-1))))]
def yt.t22:IR:=.seq yt.t0 (.seq (.seq yt.t1 (.block 0 yt.t16)) (.seq yt.t19 .ret))
def yt.b0:IR:=yt.t22
def yt.res:List RV:=[.t (.of 2)]
def yt:Fn:={ params:=[(.of 0),(.of 1)],res:=yt.res,body:=yt.b0,init:=in8 }
theorem yt.ok:fnA Tryz.prog Tryz.f108 [0,1,4,5,7,8,9,16]=some yt:=by kernel_rfl
abbrev fe.fr:=fr3
def fe.t0:IR:=.reg (dA [] 222362190)
def fe.t1:IR:=.reg (dA [] 1598504651645656)
def fe.t3:IR:=.seq fe.t0 (.seq fe.t1 .ret)
def fe.b0:IR:=fe.t3
def fe.res:List RV:=[.t (.of 2)]
def fe:Fn:={ params:=[(.of 0)],res:=fe.res,body:=fe.b0,init:=in3 }
theorem fe.ok:fnA Tryz.prog Tryz.f109 [0,1,2]=some fe:=by kernel_rfl
abbrev bU.fr:=fr3
def bU.t0:IR:=.reg (dA [] 46201422)
def bU.t1:IR:=.reg (dA [] 5916239256920)
def bU.t3:IR:=.seq bU.t0 (.seq bU.t1 .ret)
def bU.b0:IR:=bU.t3
def bU.res:List RV:=[.t (.of 2)]
def bU:Fn:={ params:=[(.of 0)],res:=bU.res,body:=bU.b0,init:=in3 }
theorem bU.ok:fnA Tryz.prog Tryz.f110 [0,1,2]=some bU:=by kernel_rfl
abbrev jo.fr:=fr10
def jo.t0:IR:=.reg (dA [] 388253)
def jo.t1:IR:=.reg (dA [] 1563891126116)
def jo.t2:IR:=.reg (dA [] 23721757)
def jo.t4:IR:=.reg (dA [] 75185454211581769899324617)
def jo.t5:IR:=.reg (dA [] 102440213593059692)
def jo.t6:IR:=.reg (dA [] 1058581637162278814855517579011024)
def jo.t11:IR:=.reg (dA [] 25946462)
def jo.t14:IR:=.seq jo.t2 (.seq (.cond aT8 .skip (.exit 0)) (.seq (.block 1 (.seq jo.t4 (.seq jo.t5 (.cond aT9 jo.t6 .skip)))) jo.t11))
def jo.t15:IR:=.loop jo.t14
def jo.t18:IR:=.seq jo.t0 (.seq jo.t1 (.block 0 jo.t15))
def jo.b0:IR:=jo.t18
def jo.res:List RV:=[]
def jo:Fn:={ params:=[(.of 0),(.of 1)],res:=jo.res,body:=jo.b0,init:=in10 }
theorem jo.ok:fnA Tryz.prog Tryz.f111 [0,1,3,4,5,6,7,8,9,15]=some jo:=by kernel_rfl
abbrev bW.fr:=fr3
def bW.t0:IR:=.reg (dA [] 1981086286)
def bW.t1:IR:=.reg (dA [] 165341989138848143738599081)
def bW.t3:IR:=.seq bW.t0 (.seq bW.t1 .ret)
def bW.b0:IR:=bW.t3
def bW.res:List RV:=[.cell (.of 2) (some 4)]
def bW:Fn:={ params:=[(.of 0)],res:=bW.res,body:=bW.b0,init:=in3 }
theorem bW.ok:fnA Tryz.prog Tryz.f112 [0,1,2]=some bW:=by kernel_rfl
abbrev qi.fr:=fr6
def qi.t0:IR:=.reg (dA [] 1064721798786204)
def qi.t1:IR:=.reg (dA [] 4304620395651216597147970225063337)
def qi.t2:IR:=.reg (dA [] 78837799986403149502490864356016)
def qi.t6:IR:=dI [] 122992153090927689872739502398201233771054977729391336953810274186561457123485616369161659183719813769804285624367154
def qi.t7:IR:=.seq qi.t6 .ret
def qi.t9:IR:=.seq qi.t0 (.seq (.seq qi.t1 (.cond aT5 (.seq qi.t2 .ret) .skip)) qi.t7)
def qi.b0:IR:=qi.t9
def qi.res:List RV:=[.cell (.of 4) (some 4)]
def qi:Fn:={ params:=[(.of 0),(.of 1)],res:=qi.res,body:=qi.b0,init:=in6 }
theorem qi.ok:fnA Tryz.prog Tryz.f114 [0,1,2,3,4,10]=some qi:=by kernel_rfl
abbrev F115.fr:=fr5
def F115.b0:IR:=dI [] 162357541842610822465987632479365030686069518871540339
def F115.res:List RV:=[.cell (.of 4) (some 4)]
def F115:Fn:={ params:=[(.of 0),(.of 1)],res:=F115.res,body:=F115.b0,init:=in5 }
theorem F115.ok:fnA Tryz.prog Tryz.f115 [0,1,2,3,4]=some F115:=by kernel_rfl
abbrev F116.fr:=fr3
def F116.b0:IR:=dI [] 1816713423533783085476375
def F116.res:List RV:=[.t (.of 2)]
def F116:Fn:={ params:=[(.of 0),(.of 1)],res:=F116.res,body:=F116.b0,init:=in3 }
theorem F116.ok:fnA Tryz.prog Tryz.f116 [0,1,4]=some F116:=by kernel_rfl
abbrev F117.fr:=fr4
def F117.b0:IR:=dI [] 10912037101377697526591864326940291361588176685617078736247099
def F117.res:List RV:=[.t (.of 3)]
def F117:Fn:={ params:=[(.of 0),(.of 1)],res:=F117.res,body:=F117.b0,init:=in4 }
theorem F117.ok:fnA Tryz.prog Tryz.f117 [0,1,2,3]=some F117:=by kernel_rfl
abbrev F118.fr:=fr5
def F118.b0:IR:=dI [] 1043060951489253439750085489912090964595
def F118.res:List RV:=[.t (.of 4)]
def F118:Fn:={ params:=[(.of 0),(.of 1)],res:=F118.res,body:=F118.b0,init:=in5 }
theorem F118.ok:fnA Tryz.prog Tryz.f118 [0,1,2,3,4]=some F118:=by kernel_rfl
abbrev bX.fr:=fr5
def bX.t0:IR:=.reg (dA [] 1064721798786204)
def bX.t1:IR:=dI [] 1378789722002558527264830113398800943648264784359323407535145542631466098
def bX.t3:IR:=.seq bX.t0 (.seq bX.t1 .ret)
def bX.b0:IR:=bX.t3
def bX.res:List RV:=[.cell (.of 4) (some 4)]
def bX:Fn:={ params:=[(.of 0),(.of 1)],res:=bX.res,body:=bX.b0,init:=in5 }
theorem bX.ok:fnA Tryz.prog Tryz.f119 [0,1,2,3,4]=some bX:=by kernel_rfl
abbrev F120.fr:=fr4
def F120.b0:IR:=dI [] 676849546484635291052218233642107172381097762560802781890717689309499
def F120.res:List RV:=[.cell (.of 2) (some 2)]
def F120:Fn:={ params:=[(.of 0)],res:=F120.res,body:=F120.b0,init:=in4 }
theorem F120.ok:fnA Tryz.prog Tryz.f120 [0,1,2,3]=some F120:=by kernel_rfl
abbrev F121.fr:=fr4
def F121.b0:IR:=dI [] 151436121392967342174547879471149999024755315
def F121.res:List RV:=[.t (.of 2),.t (.of 3)]
def F121:Fn:={ params:=[(.of 0)],res:=F121.res,body:=F121.b0,init:=in4 }
theorem F121.ok:fnA Tryz.prog Tryz.f121 [0,1,2,3]=some F121:=by kernel_rfl
abbrev xk.fr:=fr3
def xk.t0:IR:=.reg (dA [] 222362190)
def xk.fZ (r:List RO):List RO:=dA r 936735449135820
def xk.rO:List RO:=xk.fZ []
def xk.fV (r:List RO):List RO:=dA r 2368931170225779655075352213153
def xk.nR:List RO:=xk.fV xk.rO
def xk.t1:IR:=.reg xk.nR
def xk.t3:IR:=.seq xk.t0 (.seq xk.t1 .ret)
def xk.b0:IR:=xk.t3
def xk.res:List RV:=[.t (.of 2)]
def xk:Fn:={ params:=[(.of 0)],res:=xk.res,body:=xk.b0,init:=in3 }
theorem xk.ok:fnA Tryz.prog Tryz.f122 [0,1,2]=some xk:=by kernel_rfl
abbrev ze.fr:=fr13
def ze.t0:IR:=.reg [iQo 1 (.mv aC0)]
def ze.t1:IR:=.reg (dA [] 122)
def ze.t2:IR:=.reg (dA [] 1131743647006378368986323698306809305281)
def ze.t3:IR:=.reg (dA [] 1261108)
def ze.t6:IR:=.reg (dA [] 21837508148)
def ze.zsm (r:List RO):List RO:=dA r 12544507591901748510988338895929165400
def ze.r5_2:List RO:=ze.zsm []
def ze.zdz (r:List RO):List RO:=dA r 2525124771256565639327886681609487063585
def ze.r5_1:List RO:=ze.zdz ze.r5_2
def ze.zdy (r:List RO):List RO:=dA r 6086825156031592
def ze.r5_0:List RO:=ze.zdy ze.r5_1
def ze.t7:IR:=.reg ze.r5_0
def ze.t10:IR:=.cond aT8 (iSr [iQo 1 (.mv aC1)] .ret) .skip
def ze.zsq (r:List RO):List RO:=dA r 1399654680237122393903165376665581965269059424049748890992583535521
def ze.r7_3:List RO:=ze.zsq []
def ze.zsp (r:List RO):List RO:=dA r 29087494165208180857334310421315374289626524357426651812321
def ze.r7_2:List RO:=ze.zsp ze.r7_3
def ze.zso (r:List RO):List RO:=dA r 48690753268732310
def ze.r7_1:List RO:=ze.zso ze.r7_2
def ze.zsn (r:List RO):List RO:=dA r 933691047065300058694526722241
def ze.r7_0:List RO:=ze.zsn ze.r7_1
def ze.t12:IR:=.reg ze.r7_0
def ze.t15:IR:=.cond aT9 (iSr [iQo 1 (.mv aC1)] .ret) .skip
def ze.zss (r:List RO):List RO:=dA r 5600603949003935861094
def ze.r9_1:List RO:=ze.zss []
def ze.zsr (r:List RO):List RO:=dA r 262902632098635857497987637806170800761565377
def ze.r9_0:List RO:=ze.zsr ze.r9_1
def ze.t17:IR:=.reg ze.r9_0
def ze.t22:IR:=.reg (dA [] 8792249348200)
def ze.t23:IR:=.reg (dA [] 41717305895724618326294385164757725617)
def ze.t24:IR:=.reg (dA [] 5320968017155454795433)
def ze.zli (r:List RO):List RO:=dA r 314544077
def ze.ztj:List RO:=ze.zli []
def ze.zlh (r:List RO):List RO:=dA r 983566793943303905724470111872885441
def ze.zlg:List RO:=ze.zlh ze.ztj
def ze.t25:IR:=.reg ze.zlg
def ze.t34:IR:=.reg [iQo 1 (.mv aC0)]
def ze.t37:IR:=.seq (.seq ze.t17 (.cond aT10 (iSr [iQo 1 (.mv aC4)] .ret) .skip)) (.seq (.seq ze.t22 (.cond aT11 (.seq ze.t23 (.seq ze.t24 (.seq ze.t25 (.cond aT12 (iSr [iQo 1 (.mv aC1)] .ret) .skip)))) .skip)) (.seq ze.t34 .ret))
def ze.t38:IR:=.seq (.seq ze.t12 ze.t15) ze.t37
def ze.t40:IR:=.seq ze.t6 (.seq (.seq ze.t7 ze.t10) ze.t38)
def ze.t43:IR:=.seq ze.t0 (.seq ze.t1 (.seq (.seq ze.t2 (.cond aT7 ze.t3 .skip)) ze.t40))
def ze.b0:IR:=ze.t43
def ze.res:List RV:=[.t (.of 1)]
def ze:Fn:={ params:=[(.of 0)],res:=ze.res,body:=ze.b0,init:=in13 }
theorem ze.ok:fnA Tryz.prog Tryz.f126 [0,2,3,4,5,6,7,16,36,62,72,76,95]=some ze:=by kernel_rfl
abbrev zm.fr:=fr14
def zm.t0:IR:=.reg (dA [] 14397740580)
def zm.t1:IR:=.reg (dA [] 4218)
def zm.t2:IR:=.reg (dA [] 369268339624948)
def zm.t7:IR:=.reg (dA [] 30510708348642807142824022261242811801521)
def zm.t8:IR:=.reg [iQo 10 (.mv aT5)]
def zm.t9:IR:=.reg (dA [] 270957556)
def zm.t12:IR:=.reg (dA [] 78034754548)
def zm.zsj (r:List RO):List RO:=dA r 311033805
def zm.r8_1:List RO:=zm.zsj []
def zm.zsi (r:List RO):List RO:=dA r 2777892908176057183440405513157926648734401
def zm.r8_0:List RO:=zm.zsi zm.r8_1
def zm.t13:IR:=.reg zm.r8_0
def zm.t18:IR:=.reg (dA [] 112676220296517382229961)
def zm.t19:IR:=.reg (dA [] 34687960998248)
def zm.t20:IR:=.reg (dA [] 218027245969326959939529)
def zm.t23:IR:=.reg [iQo 13 (.mv aT5)]
def zm.t24:IR:=.reg (dA [] 405617972)
def zm.t27:IR:=.reg (dA [] 165480009749721)
def zm.t29:IR:=.seq (.seq zm.t23 (.cond aT13 zm.t24 .skip)) (.seq zm.t27 .ret)
def zm.t33:IR:=.seq zm.t12 (.seq (.seq zm.t13 (.cond aT11 (.seq (.reg (dA [] 14397740580)) .ret) .skip)) (.seq zm.t18 (.seq (.seq zm.t19 (.cond aT12 zm.t20 .skip)) zm.t29)))
def zm.t38:IR:=.seq zm.t0 (.seq zm.t1 (.seq (.seq zm.t2 (.cond aT9 (.seq (.reg (dA [] 14397740580)) .ret) .skip)) (.seq zm.t7 (.seq (.seq zm.t8 (.cond aT10 zm.t9 .skip)) zm.t33))))
def zm.b0:IR:=zm.t38
def zm.res:List RV:=[.t (.of 1),.t (.of 2),.t (.of 3)]
def zm:Fn:={ params:=[(.of 0)],res:=zm.res,body:=zm.b0,init:=in14 }
theorem zm.ok:fnA Tryz.prog Tryz.f127 [0,2,3,4,5,6,7,8,9,13,22,35,43,49]=some zm:=by kernel_rfl
abbrev zo.fr:=fr9
def zo.t0:IR:=.reg [iQo 2 (.mv (.c (.str [])))]
def zo.fZ (r:List RO):List RO:=dA r 12334267459921025349640826289743940393
def zo.rO:List RO:=zo.fZ []
def zo.fV (r:List RO):List RO:=dA r 239791506564877125665210353130632129
def zo.nR:List RO:=zo.fV zo.rO
def zo.t1:IR:=.reg zo.nR
def zo.t6:IR:=.reg (dA [] 48121722)
def zo.t10:IR:=.reg (dA [] 197539388968486868017079248)
def zo.t11:IR:=dI [] 3918583323268819793354712331907186
def zo.t12:IR:=.reg [iQo 4 (.mv (.c (.str [])))]
def zo.t13:IR:=.reg (dA [] 48072314)
def zo.t14:IR:=.reg (dA [] 346437)
def zo.t17:IR:=.reg (dA [] 163012543156171603013471199023041)
def zo.t18:IR:=.reg (dA [] 790480762)
def zo.t19:IR:=.reg (dA [] 155802599178989265890635721)
def zo.t22:IR:=.reg (dA [] 506)
def zo.t25:IR:=.seq zo.t17 (.seq (.seq zo.t18 (.cond aT8 zo.t19 .skip)) (.seq zo.t22 .ret))
def zo.t29:IR:=.seq zo.t10 (.seq zo.t11 (.seq zo.t12 (.seq (.seq zo.t13 (.cond aT7 zo.t14 .skip)) zo.t25)))
def zo.t32:IR:=.seq zo.t0 (.seq (.seq zo.t1 (.cond aT5 (.seq (.reg (dA [] 538568447313684471460809)) .ret) .skip)) (.seq (.seq zo.t6 (.cond aT6 (.reg (dA [] 1187126932254913481)) .skip)) zo.t29))
def zo.b0:IR:=zo.t32
def zo.res:List RV:=[.t (.of 2)]
def zo:Fn:={ params:=[(.of 0),(.of 1)],res:=zo.res,body:=zo.b0,init:=in9 }
theorem zo.ok:fnA Tryz.prog Tryz.f128 [0,1,4,5,6,20,27,45,54]=some zo:=by kernel_rfl
abbrev uw.fr:=fr6
def uw.t0:IR:=.reg (dA [] 3406535190)
def uw.t1:IR:=.reg (dA [] 10362)
def uw.t2:IR:=.reg (dA [] 8952605748)
def uw.t3:IR:=.reg (dA [] 8341728815080)
def uw.t4:IR:=.reg (dA [] 5475505927011018763406389465)
def uw.t8:IR:=dI [] 10327914561589388314082338740071196273993494965476671709799098418
def uw.t13:IR:=.seq uw.t0 (.seq uw.t1 (.seq uw.t2 (.seq (.seq uw.t3 (.cond aT5 (.seq uw.t4 .ret) .skip)) (.seq uw.t8 .ret))))
def uw.b0:IR:=uw.t13
def uw.res:List RV:=[.cell (.of 1) (some 2),.cell (.of 2) (some 2)]
def uw:Fn:={ params:=[(.of 0)],res:=uw.res,body:=uw.b0,init:=in6 }
theorem uw.ok:fnA Tryz.prog Tryz.f129 [0,2,3,4,5,12]=some uw:=by kernel_rfl
abbrev yj.fr:=fr7
def yj.t0:IR:=.reg (dA [] 209965)
def yj.t1:IR:=.reg [iQo 2 (.mv (.c .zb))]
def yj.t2:IR:=.reg (dA [] 170777844)
def yj.t3:IR:=.reg (dA [] 95340154)
def yj.t6:IR:=.reg (dA [] 8979455220)
def yj.t7:IR:=.reg (dA [] 96243194)
def yj.t8:IR:=.reg (dA [] 137182196)
def yj.t11:IR:=.reg (dA [] 4214592643737839833)
def yj.t12:IR:=.reg (dA [] 219432590580)
def yj.t13:IR:=.seq yj.t11 yj.t12
def yj.t17:IR:=.seq (.seq yj.t3 (.cond aT5 .skip (.exit 0))) (.block 1 (.seq yj.t6 (.seq (.seq yj.t7 (.cond aT6 yj.t8 .skip)) yj.t13)))
def yj.t18:IR:=.loop yj.t17
def yj.t20:IR:=.reg (dA [] 106699742308610152)
def yj.t21:IR:=.seq yj.t20 .ret
def yj.t25:IR:=.seq yj.t0 (.seq yj.t1 (.seq yj.t2 (.seq (.block 0 yj.t18) yj.t21)))
def yj.b0:IR:=yj.t25
def yj.res:List RV:=[.cell (.of 1) (some 2)]
def yj:Fn:={ params:=[(.of 0)],res:=yj.res,body:=yj.b0,init:=in7 }
theorem yj.ok:fnA Tryz.prog Tryz.f134 [0,2,3,4,5,9,13]=some yj:=by kernel_rfl
abbrev F135.fr:=fr2
def F135.b0:IR:=dI [] 44714453571382661245301499398867048529650349898905791878291230987632201779337367
def F135.res:List RV:=[.t (.of 1)]
def F135:Fn:={ params:=[(.of 0)],res:=F135.res,body:=F135.b0,init:=in2 }
theorem F135.ok:fnA Tryz.prog Tryz.f135 [0,2]=some F135:=by kernel_rfl
abbrev F136.fr:=fr9
def F136.b0:IR:=dI [] 945375133696340417149880370917809026148650883126681096628626651560282562553540482134954542376777898987060177047
def F136.res:List RV:=[.t (.of 1)]
def F136:Fn:={ params:=[(.of 0)],res:=F136.res,body:=F136.b0,init:=in9 }
theorem F136.ok:fnA Tryz.prog Tryz.f136 [0,2,3,4,7,8,9,10,17]=some F136:=by kernel_rfl
abbrev F137.fr:=fr8
def F137.b0:IR:=dI [] 12819418975106193433824664155368930830090823674046575508631468105201598701858727887418954628704791
def F137.res:List RV:=[.t (.of 2)]
def F137:Fn:={ params:=[(.of 0),(.of 1)],res:=F137.res,body:=F137.b0,init:=in8 }
theorem F137.ok:fnA Tryz.prog Tryz.f137 [0,1,4,5,6,10,11,12]=some F137:=by kernel_rfl
abbrev F138.fr:=fr3
def F138.b0:IR:=dI [] 18824757157251882587636790007778555573130775
def F138.res:List RV:=[.t (.of 2)]
def F138:Fn:={ params:=[(.of 0),(.of 1)],res:=F138.res,body:=F138.b0,init:=in3 }
theorem F138.ok:fnA Tryz.prog Tryz.f138 [0,1,3]=some F138:=by kernel_rfl
abbrev F139.fr:=fr10
def F139.b0:IR:=dI [] 249029890301840726711528475621514743309887909046859072182609491399079481801991462716673279288461401649056541604829499
def F139.res:List RV:=[.t (.of 3)]
def F139:Fn:={ params:=[(.of 0),(.of 1)],res:=F139.res,body:=F139.b0,init:=in10 }
theorem F139.ok:fnA Tryz.prog Tryz.f139 [0,1,2,4,5,7,9,10,11,12]=some F139:=by kernel_rfl
abbrev F140.fr:=fr4
def F140.b0:IR:=dI [] 624912408534028309242959659258391464867994073442164144357043106601052084505053263796454692971499214081323222035067135423565386180076384961840351389314495274462447097175822658216586864394768210249497928087484982685125400848699
def F140.res:List RV:=[.t (.of 2)]
def F140:Fn:={ params:=[(.of 0)],res:=F140.res,body:=F140.b0,init:=in4 }
theorem F140.ok:fnA Tryz.prog Tryz.f140 [0,1,2,28]=some F140:=by kernel_rfl
abbrev F141.fr:=fr1
def F141.b0:IR:=dI [] 23584053408210437034905018077691211833110203055263340439059981446748090213612708037627697144006743835394886964034419066806969578207095115564063901748084304370890094999
def F141.res:List RV:=[.t (.of 0)]
def F141:Fn:={ params:=[],res:=F141.res,body:=F141.b0,init:=in1 }
theorem F141.ok:fnA Tryz.prog Tryz.f141 [0]=some F141:=by kernel_rfl
abbrev F142.fr:=fr3
def F142.b0:IR:=dI [] 67287858752339248310119022246166514032355479
def F142.res:List RV:=[.t (.of 1)]
def F142:Fn:={ params:=[(.of 0)],res:=F142.res,body:=F142.b0,init:=in3 }
theorem F142.ok:fnA Tryz.prog Tryz.f142 [0,2,4]=some F142:=by kernel_rfl
abbrev F144.fr:=fr4
def F144.b0:IR:=dI [] 5328172523785280149227252370923972541346609173297463810363
def F144.res:List RV:=[.t (.of 3)]
def F144:Fn:={ params:=[(.of 0),(.of 1)],res:=F144.res,body:=F144.b0,init:=in4 }
theorem F144.ok:fnA Tryz.prog Tryz.f144 [0,1,2,4]=some F144:=by kernel_rfl
abbrev F145.fr:=fr19
def F145.b0:IR:=dI [] 303732154959049037457215570098160699255535620014840350215662795994097947378466596606988567988109777523645707853036949804281559675259449891601624667467737425245928069515003352542283860592421089966602170247232490872801688570496472579318387096518461267995170691755129464653089382167101821325555923337268675779340934568251
def F145.res:List RV:=[.t (.of 3)]
def F145:Fn:={ params:=[(.of 0),(.of 1)],res:=F145.res,body:=F145.b0,init:=in19 }
theorem F145.ok:fnA Tryz.prog Tryz.f145 [0,1,2,4,5,6,7,8,10,14,15,16,17,22,23,24,25,40,45]=some F145:=by kernel_rfl
abbrev F151.fr:=fr3
def F151.b0:IR:=dI [] 1816713423841646341253655
def F151.res:List RV:=[.t (.of 2)]
def F151:Fn:={ params:=[(.of 0),(.of 1)],res:=F151.res,body:=F151.b0,init:=in3 }
theorem F151.ok:fnA Tryz.prog Tryz.f151 [0,1,4]=some F151:=by kernel_rfl
abbrev F152.fr:=fr19
def F152.b0:IR:=dI [] 510349628580865688524214683473424842745282056538389874774491220907280511601574390518909115722291988879068062512094701471358610328487371634639400612607233639342790247688918081354317446305530946516037881225259885916689265448633836252347992656180574581234933397527474151364332789330002417614066885720295370862519130834011661108887940403366205361784534075759167934991766730539368242327735
def F152.res:List RV:=[.cell (.of 2) (some 2)]
def F152:Fn:={ params:=[(.of 0),(.of 1)],res:=F152.res,body:=F152.b0,init:=in19 }
theorem F152.ok:fnA Tryz.prog Tryz.f152 [0,1,4,5,6,7,9,10,11,21,26,27,28,29,35,36,37,41,55]=some F152:=by kernel_rfl
abbrev F153.fr:=fr12
def F153.b0:IR:=dI [] 480430396032406834504715916082468700785343525678239523126783190594074060922175009741718166469581411435126095692992600206734541581114703596511291867887210473380025893943891514537117240081552150270685367
def F153.res:List RV:=[.cell (.of 2) (some 2)]
def F153:Fn:={ params:=[(.of 0),(.of 1)],res:=F153.res,body:=F153.b0,init:=in12 }
theorem F153.ok:fnA Tryz.prog Tryz.f153 [0,1,4,5,6,8,9,13,14,15,16,27]=some F153:=by kernel_rfl
abbrev F154.fr:=fr9
def F154.b0:IR:=dI [] 255006581661332340850515646132821189785239700955339534537154567564692612350383954091639711050368650378728161130712914235
def F154.res:List RV:=[.t (.of 3)]
def F154:Fn:={ params:=[(.of 0),(.of 1)],res:=F154.res,body:=F154.b0,init:=in9 }
theorem F154.ok:fnA Tryz.prog Tryz.f154 [0,1,3,4,5,6,7,8,9]=some F154:=by kernel_rfl
abbrev F155.fr:=fr9
def F155.b0:IR:=dI [] 4080105306581317453608250338125139036563835186393949314423045326889334117323052271678907327192470015136859682394985978171
def F155.res:List RV:=[.t (.of 3)]
def F155:Fn:={ params:=[(.of 0),(.of 1)],res:=F155.res,body:=F155.b0,init:=in9 }
theorem F155.ok:fnA Tryz.prog Tryz.f155 [0,1,3,4,5,6,7,8,9]=some F155:=by kernel_rfl
abbrev F168.fr:=fr4
def F168.b0:IR:=dI [] 4281016139725918713002678544810872648410192109557478815121609920945352767300093306538976515208904698057534158965823803
def F168.res:List RV:=[.t (.of 3)]
def F168:Fn:={ params:=[(.of 0),(.of 1)],res:=F168.res,body:=F168.b0,init:=in4 }
theorem F168.ok:fnA Tryz.prog Tryz.f168 [0,1,2,4]=some F168:=by kernel_rfl
abbrev F169.fr:=fr11
def F169.b0:IR:=dI [] 2453069482095097833602668376087746518187686684424169921963628752175060396060332000654874103441617296297955283875220942341761705345661168798609290401805221449493325859955581336728612804605838436893304731956677309926738457592512895291
def F169.res:List RV:=[.t (.of 3)]
def F169:Fn:={ params:=[(.of 0),(.of 1)],res:=F169.res,body:=F169.b0,init:=in11 }
theorem F169.ok:fnA Tryz.prog Tryz.f169 [0,1,2,4,5,6,7,12,13,14,15]=some F169:=by kernel_rfl
abbrev F170.fr:=fr3
def F170.b0:IR:=dI [] 122415816291254172568774681471127
def F170.res:List RV:=[.t (.of 1)]
def F170:Fn:={ params:=[(.of 0)],res:=F170.res,body:=F170.b0,init:=in3 }
theorem F170.ok:fnA Tryz.prog Tryz.f170 [0,2,3]=some F170:=by kernel_rfl
abbrev F171.fr:=fr3
def F171.b0:IR:=dI [] 58252694361165484259535163
def F171.res:List RV:=[.t (.of 2)]
def F171:Fn:={ params:=[(.of 0)],res:=F171.res,body:=F171.b0,init:=in3 }
theorem F171.ok:fnA Tryz.prog Tryz.f171 [0,1,2]=some F171:=by kernel_rfl
abbrev tJ.fr:=fr3
def tJ.b0:IR:=dI [] 1816713423401841690143255
def tJ.res:List RV:=[.t (.of 2)]
def tJ:Fn:={ params:=[(.of 0),(.of 1)],res:=tJ.res,body:=tJ.b0,init:=in3 }
theorem tJ.ok:fnA Tryz.prog Tryz.f173 [0,1,4]=some tJ:=by kernel_rfl
abbrev tH.fr:=fr4
def tH.b0:IR:=dI [] 8801524768669258084998212121455985242396311
def tH.res:List RV:=[.t (.of 3)]
def tH:Fn:={ params:=[(.of 0),(.of 1),(.of 2)],res:=tH.res,body:=tH.b0,init:=in4 }
theorem tH.ok:fnA Tryz.prog Tryz.f174 [0,1,2,4]=some tH:=by kernel_rfl
abbrev tF.fr:=fr3
def tF.b0:IR:=dI [] 1816713423938403364497943
def tF.res:List RV:=[.t (.of 2)]
def tF:Fn:={ params:=[(.of 0),(.of 1)],res:=tF.res,body:=tF.b0,init:=in3 }
theorem tF.ok:fnA Tryz.prog Tryz.f175 [0,1,4]=some tF:=by kernel_rfl
abbrev tC.fr:=fr3
def tC.b0:IR:=dI [] 443700896938337626647
def tC.res:List RV:=[.t (.of 2)]
def tC:Fn:={ params:=[(.of 0),(.of 1)],res:=tC.res,body:=tC.b0,init:=in3 }
theorem tC.ok:fnA Tryz.prog Tryz.f176 [0,1,3]=some tC:=by kernel_rfl
abbrev qz.fr:=fr9
def qz.b4:IR:=dI [] 68059229213161764426506798390778595094722463532650371433019528473971304298174583
def qz.b3:IR:=(.loop qz.b4)
def qz.g2 (X3:IR):IR:=(.block 0 X3)
def qz.b2:IR:=qz.g2 qz.b3
def qz.b9:IR:=dI [] 412183
def qz.b0:IR:=dI [qz.b2,qz.b9] 32086145982853756912983943013768603484305680919
def qz.res:List RV:=[.t (.of 2)]
def qz:Fn:={ params:=[(.of 0),(.of 1)],res:=qz.res,body:=qz.b0,init:=in9 }
theorem qz.ok:fnA Tryz.prog Tryz.f177 [0,1,4,5,10,12,13,14,24]=some qz:=by kernel_rfl
abbrev F178.fr:=fr9
def F178.b0:IR:=dI [] 15166762424252035013061899331614795693352904242822928093302154550419237488524482949589291890962589603846459
def F178.res:List RV:=[.t (.of 3)]
def F178:Fn:={ params:=[(.of 0),(.of 1)],res:=F178.res,body:=F178.b0,init:=in9 }
theorem F178.ok:fnA Tryz.prog Tryz.f178 [0,1,3,4,5,7,8,9,16]=some F178:=by kernel_rfl
abbrev cZ.fr:=fr3
def cZ.t0:IR:=.reg (dA [] 6789)
def cZ.t1:IR:=.reg (dA [] 25365396968039385)
def cZ.t3:IR:=.seq cZ.t0 (.seq cZ.t1 .ret)
def cZ.b0:IR:=cZ.t3
def cZ.res:List RV:=[.t (.of 2)]
def cZ:Fn:={ params:=[(.of 0),(.of 1)],res:=cZ.res,body:=cZ.b0,init:=in3 }
theorem cZ.ok:fnA Tryz.prog Tryz.f179 [0,1,4]=some cZ:=by kernel_rfl
abbrev cO.fr:=fr3
def cO.t0:IR:=.reg (dA [] 222362190)
def cO.t1:IR:=.reg (dA [] 12735555350389880573372597982266151105905)
def cO.t3:IR:=.seq cO.t0 (.seq cO.t1 .ret)
def cO.b0:IR:=cO.t3
def cO.res:List RV:=[.t (.of 2)]
def cO:Fn:={ params:=[(.of 0)],res:=cO.res,body:=cO.b0,init:=in3 }
theorem cO.ok:fnA Tryz.prog Tryz.f180 [0,1,2]=some cO:=by kernel_rfl
abbrev jh.fr:=fr9
def jh.t0:IR:=.reg [iQo 1 (.mv (.c .zb))]
def jh.t1:IR:=.reg (dA [] 10282088630760)
def jh.t2:IR:=.reg (dA [] 1563891126116)
def jh.t3:IR:=.reg (dA [] 23721757)
def jh.t5:IR:=.reg (dA [] 75185454211581769899324617)
def jh.t6:IR:=.reg (dA [] 130002533639779062565595337)
def jh.t9:IR:=.reg (dA [] 25946462)
def jh.t12:IR:=.seq jh.t3 (.seq (.cond aT8 .skip (.exit 0)) (.seq (.block 1 (.seq jh.t5 jh.t6)) jh.t9))
def jh.t13:IR:=.loop jh.t12
def jh.t16:IR:=.reg (dA [] 2330)
def jh.t20:IR:=.seq jh.t0 (.seq jh.t1 (.seq (.seq jh.t2 (.block 0 jh.t13)) (.seq jh.t16 .ret)))
def jh.b0:IR:=jh.t20
def jh.res:List RV:=[.t (.of 1)]
def jh:Fn:={ params:=[(.of 0)],res:=jh.res,body:=jh.b0,init:=in9 }
theorem jh.ok:fnA Tryz.prog Tryz.f181 [0,2,3,4,5,9,10,11,12]=some jh:=by kernel_rfl
abbrev cK.fr:=fr3
def cK.t0:IR:=.reg (dA [] 6789)
def cK.t1:IR:=.reg (dA [] 25365406296171481)
def cK.t3:IR:=.seq cK.t0 (.seq cK.t1 .ret)
def cK.b0:IR:=cK.t3
def cK.res:List RV:=[.t (.of 2)]
def cK:Fn:={ params:=[(.of 0),(.of 1)],res:=cK.res,body:=cK.b0,init:=in3 }
theorem cK.ok:fnA Tryz.prog Tryz.f182 [0,1,4]=some cK:=by kernel_rfl
abbrev F183.fr:=fr2
def F183.b0:IR:=dI [] 14591913240603088515192983
def F183.res:List RV:=[.t (.of 1)]
def F183:Fn:={ params:=[(.of 0)],res:=F183.res,body:=F183.b0,init:=in2 }
theorem F183.ok:fnA Tryz.prog Tryz.f183 [0,2]=some F183:=by kernel_rfl
abbrev wm.fr:=fr8
def wm.b3:IR:=dI [] 287565595511590687544877904647364684187717564317433980077991031
def wm.b2:IR:=(.loop wm.b3)
def wm.g1 (X2:IR):IR:=(.block 0 X2)
def wm.b1:IR:=wm.g1 wm.b2
def wm.b8:IR:=dI [] 3466775
def wm.b0:IR:=dI [wm.b1,wm.b8] 103675937821527856663
def wm.res:List RV:=[.t (.of 2)]
def wm:Fn:={ params:=[(.of 0),(.of 1)],res:=wm.res,body:=wm.b0,init:=in8 }
theorem wm.ok:fnA Tryz.prog Tryz.f184 [0,1,4,5,7,8,9,16]=some wm:=by kernel_rfl
abbrev F185.fr:=fr3
def F185.b0:IR:=dI [] 1815433865154179198347799
def F185.res:List RV:=[.t (.of 2)]
def F185:Fn:={ params:=[(.of 0),(.of 1)],res:=F185.res,body:=F185.b0,init:=in3 }
theorem F185.ok:fnA Tryz.prog Tryz.f185 [0,1,3]=some F185:=by kernel_rfl
abbrev bg.fr:=fr3
def bg.t0:IR:=.reg (dA [] 1981086286)
def bg.t1:IR:=dI [] 63556220534078463475283205731890
def bg.t3:IR:=.seq bg.t0 (.seq bg.t1 .ret)
def bg.b0:IR:=bg.t3
def bg.res:List RV:=[.cell (.of 2) (some 4)]
def bg:Fn:={ params:=[(.of 0)],res:=bg.res,body:=bg.b0,init:=in3 }
theorem bg.ok:fnA Tryz.prog Tryz.f186 [0,1,2]=some bg:=by kernel_rfl
abbrev bf.fr:=fr2
def bf.t0:IR:=.reg (dA [] 29741)
def bf.t1:IR:=.reg (dA [] 3256217126132)
def bf.t3:IR:=.seq bf.t0 (.seq bf.t1 .ret)
def bf.b0:IR:=bf.t3
def bf.res:List RV:=[.cell (.of 1) (some 2)]
def bf:Fn:={ params:=[(.of 0)],res:=bf.res,body:=bf.b0,init:=in2 }
theorem bf.ok:fnA Tryz.prog Tryz.f187 [0,2]=some bf:=by kernel_rfl
abbrev dz.fr:=fr18
def dz.t0:IR:=.reg (dA [] 8585804366)
def dz.t1:IR:=.reg (dA [] 23435697708972)
def dz.t2:IR:=.reg (dA [] 754025749848)
def dz.t60:IR:=.seq dz.t0 (.seq (.seq dz.t1 (.cond aT12 (.seq dz.t2 .ret) .skip)) (.seq (.reg (dA [] 10452096576324123948464)) (.seq (.reg (dA [] 98703671819966)) (iSr [(iQo 6 (.mv (.c .zb)))] (.seq (.block 0 (.loop (.seq (.seq (.reg (dA [] 190615227380)) (.cond aT13 .skip (.exit 0))) (.block 1 (.seq (.reg (dA [] 14029099256734783661133761)) (.seq (.reg (dA [] 847813)) (.seq (.seq (.reg (dA [] 762677238964)) (.cond aT14 (.reg (dA [] 554552143054361883353)) .skip)) (.seq (.seq (.reg (dA [] 382043262260)) (.cond aT15 (.reg (dA [] 19539603010457120263021170552363472)) .skip)) (.seq (.reg (dA [] 340552823908572776219353)) (.reg (dA [] 8858))))))))))) (.seq (.reg (dA [] 64977965)) (.seq (.seq (.reg (dA [] 4325)) (.cond aT16 (.reg (dA [] 363246909405)) .skip)) (.seq (.seq (.reg (dA [] 2170992398696)) (.block 2 (.loop (.seq (.seq (.reg (dA [] 6049118202)) (.cond aT17 .skip (.exit 2))) (.seq (.block 3 (.reg (dA [] 14771233912633934553))) (.reg (dA [] 33921757172))))))) (.seq (.reg (dA [] 53870062)) .ret)))))))))
def dz.b0:IR:=dz.t60
def dz.res:List RV:=[.t (.of 2)]
def dz:Fn:={ params:=[(.of 0)],res:=dz.res,body:=dz.b0,init:=in18 }
theorem dz.ok:fnA Tryz.prog Tryz.f188 [0,1,2,3,4,5,6,7,8,9,10,11,14,26,35,42,54,60]=some dz:=by kernel_rfl
abbrev bY.fr:=fr5
def bY.t0:IR:=.reg (dA [] 1064721798786204)
def bY.t1:IR:=dI [] 259321521012358383072217955377966706
def bY.t3:IR:=.seq bY.t0 (.seq bY.t1 .ret)
def bY.b0:IR:=bY.t3
def bY.res:List RV:=[.cell (.of 4) (some 4)]
def bY:Fn:={ params:=[(.of 0),(.of 1)],res:=bY.res,body:=bY.b0,init:=in5 }
theorem bY.ok:fnA Tryz.prog Tryz.f192 [0,1,2,3,4]=some bY:=by kernel_rfl
abbrev dw.fr:=fr6
def dw.t0:IR:=.reg (dA [] 907344462)
def dw.t1:IR:=.reg (dA [] 2263591161364910028262300842893024132769)
def dw.t2:IR:=.reg (dA [] 20397600004661820089)
def dw.t11:IR:=.seq dw.t0 (.seq (.seq dw.t1 (.cond aT5 (.seq dw.t2 .ret) .skip)) (.seq (.reg (dA [] 10452096576324123948464)) (.seq (.reg (dA [] 326361685963626582233)) .ret)))
def dw.b0:IR:=dw.t11
def dw.res:List RV:=[.cell (.of 2) (some 2)]
def dw:Fn:={ params:=[(.of 0)],res:=dw.res,body:=dw.b0,init:=in6 }
theorem dw.ok:fnA Tryz.prog Tryz.f193 [0,1,2,3,4,12]=some dw:=by kernel_rfl
abbrev bT.fr:=fr3
def bT.t0:IR:=.reg (dA [] 46201422)
def bT.t1:IR:=.reg (dA [] 414170995173925829305)
def bT.t3:IR:=.seq bT.t0 (.seq bT.t1 .ret)
def bT.b0:IR:=bT.t3
def bT.res:List RV:=[.t (.of 2)]
def bT:Fn:={ params:=[(.of 0)],res:=bT.res,body:=bT.b0,init:=in3 }
theorem bT.ok:fnA Tryz.prog Tryz.f194 [0,1,2]=some bT:=by kernel_rfl
abbrev jl.fr:=fr8
def jl.t0:IR:=.reg (dA [] 1064721798786204)
def jl.t1:IR:=.reg (dA [] 6458760570277228)
def jl.t2:IR:=dI [] 524977171924358323205063542992891338910322
def jl.t5:IR:=.reg (dA [] 35366989663107173104481045625790406305)
def jl.t6:IR:=.reg (dA [] 18355859016933283928792)
def jl.t10:IR:=.reg (dA [] 18970592503814745920779705)
def jl.t11:IR:=dI [] 9796890186166201750502307536710129942259935132596405364850
def jl.t13:IR:=.seq jl.t10 (.seq jl.t11 .ret)
def jl.t14:IR:=.seq (.seq jl.t5 (.cond aT7 (.seq jl.t6 .ret) .skip)) jl.t13
def jl.t16:IR:=.seq jl.t0 (.seq (.seq jl.t1 (.cond aT6 jl.t2 .skip)) jl.t14)
def jl.b0:IR:=jl.t16
def jl.res:List RV:=[.cell (.of 4) (some 4)]
def jl:Fn:={ params:=[(.of 0),(.of 1)],res:=jl.res,body:=jl.b0,init:=in8 }
theorem jl.ok:fnA Tryz.prog Tryz.f195 [0,1,2,3,4,5,8,20]=some jl:=by kernel_rfl
abbrev qg.fr:=fr14
def qg.t0:IR:=.reg (dA [] 501771845364892)
def qg.t1:IR:=.reg (dA [] 1131754433192938105212101492634510368417)
def qg.t2:IR:=.reg (dA [] 99197655948692137)
def qg.t3:IR:=.reg (dA [] 536568553303180569469797443521)
def qg.t4:IR:=.reg (dA [] 8711457507828)
def qg.t30:IR:=.seq qg.t0 (.seq (.seq qg.t1 (.cond aT10 (.seq qg.t2 (.seq qg.t3 (.cond aT11 (.seq qg.t4 .ret) .skip))) .skip)) (.seq (.reg (dA [] 58671885585000891823536)) (.seq (.reg (dA [] 570735054327104335001008)) (.seq (.block 0 (.seq (.reg (dA [] 38595330662760)) (.cond aT12 (.seq (.reg (dA [] 19616397810473564074807706313)) .ret) (.seq (.reg (dA [] 7120452285525251289)) (.cond aT13 (.seq (.reg (dA [] 19616397810473564349685613257)) .ret) .skip))))) (.seq (.reg (dA [] 39232795620947128699900375753)) .ret)))))
def qg.b0:IR:=qg.t30
def qg.res:List RV:=[.cell (.of 4) (some 2)]
def qg:Fn:={ params:=[(.of 0),(.of 1)],res:=qg.res,body:=qg.b0,init:=in14 }
theorem qg.ok:fnA Tryz.prog Tryz.f197 [0,1,2,3,4,5,6,7,8,9,17,30,43,52]=some qg:=by kernel_rfl
abbrev gy.fr:=fr14
def gy.t0:IR:=.reg (dA [] 501771845364892)
def gy.t1:IR:=.reg (dA [] 1131837509942674662454157980575777889953)
def gy.t2:IR:=dI [] 39470074320637498604367658893430544714120958044332360377458
def gy.t3:IR:=.reg (dA [] 2152192894314193452795385358116809)
def gy.t4:IR:=.reg (dA [] 261584989894691252460292784)
def gy.t5:IR:=.reg (dA [] 292308008553251988185)
def gy.t9:IR:=.reg (dA [] 71364259903631720)
def gy.t24:IR:=.seq gy.t0 (.seq (.seq gy.t1 (.cond aT11 (.seq gy.t2 (.seq gy.t3 (.cond aT12 (.seq (.seq gy.t4 (.cond aT13 (.seq gy.t5 .ret) .skip)) (.seq gy.t9 .ret)) .skip))) .skip)) (.seq (.reg (dA [] 219204675886458264761776)) (.seq (.reg (dA [] 589689083862840899286448)) (.seq (.reg (dA [] 1316434172832968233193800079815333057)) .ret))))
def gy.b0:IR:=gy.t24
def gy.res:List RV:=[.cell (.of 4) (some 2)]
def gy:Fn:={ params:=[(.of 0),(.of 1)],res:=gy.res,body:=gy.b0,init:=in14 }
theorem gy.ok:fnA Tryz.prog Tryz.f198 [0,1,2,3,4,5,6,7,8,9,10,18,34,41]=some gy:=by kernel_rfl
abbrev F199.fr:=fr8
def F199.b0:IR:=dI [] 13469593255681833670059184229617270707666219374839469654552635875800428033618365806677546519
def F199.res:List RV:=[.t (.of 2)]
def F199:Fn:={ params:=[(.of 0),(.of 1)],res:=F199.res,body:=F199.b0,init:=in8 }
theorem F199.ok:fnA Tryz.prog Tryz.f199 [0,1,4,5,7,8,9,16]=some F199:=by kernel_rfl
abbrev F200.fr:=fr5
def F200.b0:IR:=dI [] 3286604170839230229439461200874025037974902149475056007657801196527765299948081885811
def F200.res:List RV:=[.t (.of 4)]
def F200:Fn:={ params:=[(.of 0),(.of 1)],res:=F200.res,body:=F200.b0,init:=in5 }
theorem F200.ok:fnA Tryz.prog Tryz.f200 [0,1,2,3,4]=some F200:=by kernel_rfl
abbrev jr.fr:=fr18
def jr.t0:IR:=.reg (dA [] 32005834295599159608)
def jr.fZ (r:List RO):List RO:=dA r 527038434385560958266079833945
def jr.rO:List RO:=jr.fZ []
def jr.fV (r:List RO):List RO:=dA r 17683130909581712839025527675280105121
def jr.nR:List RO:=jr.fV jr.rO
def jr.t1:IR:=.reg jr.nR
def jr.t2:IR:=dI [] 144827385993482571787901278662584982559184361530482
def jr.t3:IR:=.reg (dA [] 767790746)
def jr.t4:IR:=dI [] 16080139432466859244452789024239730
def jr.t7:IR:=.reg (dA [] 1214105659670733648492110537)
def jr.t29:IR:=.seq jr.t0 (.seq (.seq jr.t1 (.cond aT15 (.seq jr.t2 (.seq (.seq jr.t3 (.cond aT16 jr.t4 .skip)) (.seq jr.t7 .ret))) .skip)) (.seq (.reg (dA [] 570735054327104335132080)) (.seq (.reg (dA [] 509551815920628179678640)) (.seq (.reg (dA [] 340613004604179475720673729)) (.seq (.reg (dA [] 548624643426102206088108306806247957000636690556288)) (.seq (.seq (.reg (dA [] 826660490526973292)) (.cond aT17 (.nZ [] [((.s (.zn 2 aT13)),1,[]),((.s (.zn 2 aT14)),2,[]),((.s (.zn 2 aT3)),2,[]),((iCa 187 [aC1]),0,[]),((iCa 266 [aS3,aS0]),0,[]),((iCa 197 [aS3,aS2]),0,[]),((.w .none none (.store 2 aT13 aS1)),0,[]),((.w .none none (.store 2 aT14 aS0)),0,[])]) .skip)) (.seq (.nZ [] [((.s (.zn 2 aT13)),0,[]),((.s (.zn 2 aT14)),1,[]),((.w .none none (.store 2 aT4 aS1)),0,[]),((.w .none none (.store 2 aT5 aS0)),0,[])]) .ret)))))))
def jr.b0:IR:=jr.t29
def jr.res:List RV:=[.cell (.of 4) (some 2),.cell (.of 5) (some 2)]
def jr:Fn:={ params:=[(.of 0),(.of 1)],res:=jr.res,body:=jr.b0,init:=in18 }
theorem jr.ok:fnA Tryz.prog Tryz.f201 [0,1,2,3,4,5,6,7,8,9,11,12,13,14,15,28,40,75]=some jr:=by kernel_rfl
abbrev yo.fr:=fr6
def yo.t0:IR:=.reg (dA [] 209965)
def yo.t1:IR:=.reg (dA [] 141465014900055589511759512750234478513)
def yo.t2:IR:=.reg [iQo 4 (.mv aT2)]
def yo.t3:IR:=.reg (dA [] 3423812852)
def yo.t6:IR:=.reg [iQo 3 (.mv (.c .zb))]
def yo.t7:IR:=.reg (dA [] 4905844270324)
def yo.t10:IR:=.reg (dA [] 113570767563089217272667061226934397732897152)
def yo.t11:IR:=.reg (dA [] 3777958232190974813129)
def yo.t14:IR:=.seq (.seq yo.t7 (.cond aT5 .skip (.exit 0))) (.block 1 (.seq yo.t10 yo.t11))
def yo.t15:IR:=.loop yo.t14
def yo.t17:IR:=.reg (dA [] 32247760727647530769095424879148624013505)
def yo.t20:IR:=.seq yo.t6 (.seq (.block 0 yo.t15) (.seq yo.t17 .ret))
def yo.t23:IR:=.seq yo.t0 (.seq yo.t1 (.seq (.seq yo.t2 (.cond aT4 yo.t3 .skip)) yo.t20))
def yo.b0:IR:=yo.t23
def yo.res:List RV:=[.cell (.of 1) (some 2)]
def yo:Fn:={ params:=[(.of 0)],res:=yo.res,body:=yo.b0,init:=in6 }
theorem yo.ok:fnA Tryz.prog Tryz.f205 [0,2,3,4,13,18]=some yo:=by kernel_rfl
abbrev jk.fr:=fr5
def jk.t0:IR:=.reg [iQo 1 (.mv aC0)]
def jk.t1:IR:=.reg [iQo 2 (.mv aC0)]
def jk.t2:IR:=.reg (dA [] 1087077938280)
def jk.t5:IR:=.reg (dA [] 100546085082509800)
def jk.t6:IR:=.reg (dA [] 2330)
def jk.t11:IR:=.reg (dA [] 6184500)
def jk.t13:IR:=.seq (.seq jk.t2 (.cond aT3 .skip (.exit 0))) (.seq (.block 1 (.seq jk.t5 (.cond aT4 (.seq jk.t6 .ret) .skip))) jk.t11)
def jk.t14:IR:=.loop jk.t13
def jk.t17:IR:=.reg (dA [] 2286836)
def jk.t20:IR:=.seq jk.t0 (.seq (.seq jk.t1 (.block 0 jk.t14)) (.seq jk.t17 .ret))
def jk.b0:IR:=jk.t20
def jk.res:List RV:=[.t (.of 1)]
def jk:Fn:={ params:=[(.of 0)],res:=jk.res,body:=jk.b0,init:=in5 }
theorem jk.ok:fnA Tryz.prog Tryz.f206 [0,2,3,7,13]=some jk:=by kernel_rfl
abbrev ug.fr:=fr3
def ug.t0:IR:=.reg (dA [] 27173)
def ug.fZ (r:List RO):List RO:=dA r 3177266290096580606437480219680267545529
def ug.rO:List RO:=ug.fZ []
def ug.fV (r:List RO):List RO:=dA r 1102676640787637852352105354597313
def ug.nR:List RO:=ug.fV ug.rO
def ug.t1:IR:=.reg ug.nR
def ug.t4:IR:=.cond aT2 (.seq (.reg (dA [] 27173)) .ret) .skip
def ug.t6:IR:=.reg (dA [] 4665634036)
def ug.t7:IR:=.seq ug.t6 .ret
def ug.t9:IR:=.seq ug.t0 (.seq (.seq ug.t1 ug.t4) ug.t7)
def ug.b0:IR:=ug.t9
def ug.res:List RV:=[.t (.of 1)]
def ug:Fn:={ params:=[(.of 0)],res:=ug.res,body:=ug.b0,init:=in3 }
theorem ug.ok:fnA Tryz.prog Tryz.f207 [0,2,15]=some ug:=by kernel_rfl
abbrev uj.fr:=fr5
def uj.t0:IR:=.reg [iQo 2 (.mv (.c .zb))]
def uj.t1:IR:=.reg (dA [] 11920656116)
def uj.t4:IR:=.reg (dA [] 1031500398562987091026881)
def uj.t5:IR:=.reg (dA [] 5220873704)
def uj.t8:IR:=.seq (.seq uj.t1 (.cond aT4 .skip (.exit 0))) (.block 1 (.seq uj.t4 uj.t5))
def uj.t9:IR:=.loop uj.t8
def uj.t11:IR:=.reg (dA [] 122)
def uj.t14:IR:=.seq uj.t0 (.seq (.block 0 uj.t9) (.seq uj.t11 .ret))
def uj.b0:IR:=uj.t14
def uj.res:List RV:=[.t (.of 2)]
def uj:Fn:={ params:=[(.of 0),(.of 1)],res:=uj.res,body:=uj.b0,init:=in5 }
theorem uj.ok:fnA Tryz.prog Tryz.f208 [0,1,4,6,9]=some uj:=by kernel_rfl
abbrev gm.fr:=fr5
def gm.t0:IR:=.reg [iQo 1 (.mv aC0)]
def gm.t1:IR:=.reg [iQo 2 (.mv aC0)]
def gm.t2:IR:=.reg [iQo 3 (.mv aC0)]
def gm.t3:IR:=.reg (dA [] 1074193035368)
def gm.t6:IR:=.reg (dA [] 248411518357689417760675237261745)
def gm.t8:IR:=.reg (dA [] 173956148)
def gm.t10:IR:=.seq (.seq gm.t3 (.cond aT4 .skip (.exit 0))) (.seq (.block 1 gm.t6) gm.t8)
def gm.t11:IR:=.loop gm.t10
def gm.t14:IR:=.reg (dA [] 2330)
def gm.t18:IR:=.seq gm.t0 (.seq gm.t1 (.seq (.seq gm.t2 (.block 0 gm.t11)) (.seq gm.t14 .ret)))
def gm.b0:IR:=gm.t18
def gm.res:List RV:=[.t (.of 1)]
def gm:Fn:={ params:=[(.of 0)],res:=gm.res,body:=gm.b0,init:=in5 }
theorem gm.ok:fnA Tryz.prog Tryz.f209 [0,2,3,4,8]=some gm:=by kernel_rfl
abbrev ku.fr:=fr4
def ku.t0:IR:=.reg [iQo 2 (.mv aC0)]
def ku.t1:IR:=.reg (dA [] 46614394)
def ku.t4:IR:=dI [] 29195720876339100326228594
def ku.t6:IR:=.seq (.seq ku.t1 (.cond aT3 .skip (.exit 0))) (.block 1 ku.t4)
def ku.t7:IR:=.loop ku.t6
def ku.t9:IR:=.reg (dA [] 122)
def ku.t12:IR:=.seq ku.t0 (.seq (.block 0 ku.t7) (.seq ku.t9 .ret))
def ku.b0:IR:=ku.t12
def ku.res:List RV:=[.t (.of 2)]
def ku:Fn:={ params:=[(.of 0),(.of 1)],res:=ku.res,body:=ku.b0,init:=in4 }
theorem ku.ok:fnA Tryz.prog Tryz.f210 [0,1,4,6]=some ku:=by kernel_rfl
abbrev yu.fr:=fr5
def yu.t0:IR:=.reg [iQo 2 (.mv (.c (.str [])))]
def yu.t1:IR:=.reg [iQo 3 (.mv (.c (.str [])))]
def yu.zsh (r:List RO):List RO:=dA r 99678985792822482122162383521233204161
def yu.r2_0:List RO:=yu.zsh []
def yu.t2:IR:=.reg yu.r2_0
def yu.t3:IR:=.cond aT4 .skip (.exit 0)
def yu.t5:IR:=.reg (dA [] 434329825630614767541449428712527030193)
def yu.t6:IR:=.reg (dA [] 219310955764)
def yu.t8:IR:=.block 1 (.seq yu.t5 yu.t6)
def yu.t9:IR:=.seq (.seq yu.t2 yu.t3) yu.t8
def yu.t10:IR:=.loop yu.t9
def yu.t12:IR:=.reg (dA [] 26)
def yu.t13:IR:=.seq yu.t12 .ret
def yu.t16:IR:=.seq yu.t0 (.seq yu.t1 (.seq (.block 0 yu.t10) yu.t13))
def yu.b0:IR:=yu.t16
def yu.res:List RV:=[.t (.of 2)]
def yu:Fn:={ params:=[(.of 0),(.of 1)],res:=yu.res,body:=yu.b0,init:=in5 }
theorem yu.ok:fnA Tryz.prog Tryz.f211 [0,1,4,5,13]=some yu:=by kernel_rfl
end
end Go.Ev
