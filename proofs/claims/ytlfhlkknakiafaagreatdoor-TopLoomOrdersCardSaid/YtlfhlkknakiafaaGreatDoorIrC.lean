import Derived.Test.YtlfhlkknakiafaaGreatDoorIrA
import Derived.Test.YtlfhlkknakiafaaGreatDoorEvC
import Derived.Test.YtlfhlkknakiafaaGreatDoorProg
import Derived.KernelRfl
set_option linter.unusedSimpArgs false
set_option linter.unusedVariables false
namespace Go.Ev
open Go Go.Proofs
set_option maxRecDepth 100000
noncomputable section

abbrev uw.fr:=fr6
def uw.t0:IR:=.reg (dA [] 722679071)
def uw.t1:IR:=.reg (dA [] 5748524798513585308320251808938451906153)
def uw.t2:IR:=.reg (dA [] 140311875211081863801)
def uw.t6:IR:=.reg (dA [] 1887322009143807179446049)
def uw.t7:IR:=.reg (dA [] 17959920649788175332569)
def uw.t9:IR:=.seq uw.t6 (.seq uw.t7 .ret)
def uw.t11:IR:=.seq uw.t0 (.seq (.seq uw.t1 (.cond aT5 (.seq uw.t2 .ret) .skip)) uw.t9)
def uw.b0:IR:=uw.t11
def uw.res:List RV:=[.cell (.of 2) (some 2)]
def uw:Fn:={ params:=[(.of 0)],res:=uw.res,body:=uw.b0,init:=in6 }
theorem uw.ok:fnA Tryz.prog Tryz.f266 [0,1,2,3,4,12]=some uw:=by kernel_rfl
abbrev uj.fr:=fr6
def uj.t0:IR:=.reg (dA [] 8966884977211)
def uj.t1:IR:=.reg (dA [] 1754944712584819)
def uj.t2:IR:=dI [] 125227654778136449751750745
def uj.t4:IR:=.reg (dA [] 8238638092915)
def uj.t5:IR:=.reg (dA [] 136823807)
def uj.t12:IR:=dI [] 72212490770392708160518060087138717111840985
def uj.t15:IR:=.seq uj.t0 (.seq (.block 0 (.seq uj.t1 (.cond aT4 (.seq uj.t2 .ret) (.seq uj.t4 (.cond aT5 (.seq uj.t5 .ret) .skip))))) (.seq uj.t12 .ret))
def uj.b0:IR:=uj.t15
def uj.res:List RV:=[.t (.of 2),.t (.of 3)]
def uj:Fn:={ params:=[(.of 0)],res:=uj.res,body:=uj.b0,init:=in6 }
theorem uj.ok:fnA Tryz.prog Tryz.f267 [0,1,2,3,4,13]=some uj:=by kernel_rfl
abbrev yt.fr:=fr7
def yt.t0:IR:=.reg (dA [] 22053)
def yt.t1:IR:=.reg (dA [] 891428447571)
def yt.t2:IR:=.reg (dA [] 1020900455)
def yt.zwn (r:List RO):List RO:=dA r 3680689405992560829337
def yt.r3_1:List RO:=yt.zwn []
def yt.zwm (r:List RO):List RO:=dA r 16691308263684971636787733518501717321
def yt.r3_0:List RO:=yt.zwm yt.r3_1
def yt.t4:IR:=.reg yt.r3_0
def yt.t5:IR:=.reg (dA [] 294255329722671605962722625)
def yt.ze4 (r:List RO):List RO:=dA r 8045152487
def yt.r5_1:List RO:=yt.ze4 []
def yt.ze3 (r:List RO):List RO:=dA r 16691308263684971636787733518501717321
def yt.r5_0:List RO:=yt.ze3 yt.r5_1
def yt.t7:IR:=.reg yt.r5_0
def yt.t8:IR:=.reg (dA [] 143679360217298876930723)
def yt.t10:IR:=.reg (dA [] 212887)
def yt.t11:IR:=.reg (dA [] 137023335138472619)
def yt.t22:IR:=.reg (dA [] 8563958342365867)
def yt.t25:IR:=.seq yt.t0 (.seq (.block 0 (.seq yt.t1 (.cond aT3 (.seq yt.t2 .ret) (.seq yt.t4 (.cond aT4 (.seq yt.t5 .ret) (.seq yt.t7 (.cond aT5 (.seq yt.t8 .ret) (.seq yt.t10 (.cond aT6 (.seq yt.t11 .ret) .skip))))))))) (.seq yt.t22 .ret))
def yt.b0:IR:=yt.t25
def yt.res:List RV:=[.cell (.of 2) (some 2)]
def yt:Fn:={ params:=[(.of 0),(.of 1)],res:=yt.res,body:=yt.b0,init:=in7 }
theorem yt.ok:fnA Tryz.prog Tryz.f268 [0,1,4,5,10,29,44]=some yt:=by kernel_rfl
abbrev zu.fr:=fr12
def zu.t0:IR:=.reg [iQo 2 (.mv (.c .zn))]
def zu.t1:IR:=.reg (dA [] 4132701977618009)
def zu.t2:IR:=.reg (dA [] 927393092947)
def zu.t5:IR:=.reg (dA [] 239765626902284772953)
def zu.t6:IR:=.reg (dA [] 16445)
def zu.t7:IR:=.reg (dA [] 18118938411)
def zu.t8:IR:=.reg (dA [] 93617837)
def zu.t10:IR:=.reg (dA [] 981655)
def zu.t11:IR:=.reg (dA [] 33021)
def zu.t12:IR:=.reg (dA [] 64567708397395)
def zu.t13:IR:=.reg (dA [] 57144466986329)
def zu.znh (r:List RO):List RO:=iQm 4 1::r
def zu.zri:List RO:=zu.znh []
def zu.zng (r:List RO):List RO:=dA r 1621507736085283674073
def zu.zrj:List RO:=zu.zng zu.zri
def zu.zae (r:List RO):List RO:=dA r 16556830701
def zu.zc2:List RO:=zu.zae zu.zrj
def zu.zad (r:List RO):List RO:=dA r 15039277180219008201
def zu.oQ:List RO:=zu.zad zu.zc2
def zu.t16:IR:=.reg zu.oQ
def zu.t21:IR:=.reg (dA [] 461083783)
def zu.t24:IR:=.seq zu.t8 (.seq (.cond aT10 .skip (.exit 0)) (.seq (.block 1 (.seq zu.t10 (.seq zu.t11 (.seq (.seq zu.t12 (.cond aT11 zu.t13 .skip)) zu.t16)))) zu.t21))
def zu.t25:IR:=.loop zu.t24
def zu.t28:IR:=.reg (dA [] 64450813764647143843)
def zu.t29:IR:=.reg (dA [] 1099196263019)
def zu.t34:IR:=.seq zu.t5 (.seq zu.t6 (.seq (.seq zu.t7 (.block 0 zu.t25)) (.seq zu.t28 (.seq zu.t29 .ret))))
def zu.t36:IR:=.seq zu.t0 (.seq (.seq zu.t1 (.cond aT7 zu.t2 .skip)) zu.t34)
def zu.b0:IR:=zu.t36
def zu.res:List RV:=[.t (.of 2)]
def zu:Fn:={ params:=[(.of 0),(.of 1)],res:=zu.res,body:=zu.b0,init:=in12 }
theorem zu.ok:fnA Tryz.prog Tryz.f269 [0,1,4,5,6,7,8,13,21,22,23,28]=some zu:=by kernel_rfl
abbrev yw.fr:=fr9
def yw.t0:IR:=.reg [iQo 2 (.mv aC0)]
def yw.t1:IR:=.reg (dA [] 4145346361337433)
def yw.t2:IR:=.reg (dA [] 4132976855524953)
def yw.t3:IR:=.reg [iQo 2 (.mv (.c (I (-1))))]
def yw.t7:IR:=.reg [iQo 2 (.mv aC1)]
def yw.t12:IR:=.reg (dA [] 891042571859)
def yw.t13:IR:=.reg (dA [] 603575607)
def yw.t16:IR:=dI [] 17106520903644236254928115692097753
def yw.t17:IR:=dI [] 8537836671401519615511150375358681
def yw.t18:IR:=.reg [iQo 2 (.mv (.c (I (-1))))]
def yw.t22:IR:=.reg [iQo 2 (.mv aC1)]
def yw.t28:IR:=.reg (dA [] 3480633963)
def yw.t30:IR:=.seq (.seq yw.t13 (.cond aT6 .skip (.exit 0))) (.seq (.block 1 (.seq yw.t16 (.cond aT7 (.seq (.seq yw.t17 (.cond aT8 (.seq yw.t18 .ret) .skip)) (.seq yw.t22 .ret)) .skip))) yw.t28)
def yw.t31:IR:=.loop yw.t30
def yw.t34:IR:=.reg [iQo 2 (.mv aC0)]
def yw.t38:IR:=.seq yw.t0 (.seq (.seq yw.t1 (.cond aT4 (.seq (.seq yw.t2 (.cond aT5 (.seq yw.t3 .ret) .skip)) (.seq yw.t7 .ret)) .skip)) (.seq (.seq yw.t12 (.block 0 yw.t31)) (.seq yw.t34 .ret)))
def yw.b0:IR:=yw.t38
def yw.res:List RV:=[.t (.of 2)]
def yw:Fn:={ params:=[(.of 0),(.of 1)],res:=yw.res,body:=yw.b0,init:=in9 }
theorem yw.ok:fnA Tryz.prog Tryz.f270 [0,1,4,5,10,15,20,31,40]=some yw:=by kernel_rfl
abbrev yc.fr:=fr11
def yc.t0:IR:=.reg [iQo 2 (.mv (.c .zn))]
def yc.t1:IR:=.reg (dA [] 58536530005632595)
def yc.t2:IR:=.reg (dA [] 16445)
def yc.t3:IR:=.reg (dA [] 9461632811)
def yc.t4:IR:=.reg (dA [] 156659117)
def yc.t6:IR:=.reg (dA [] 981719)
def yc.t7:IR:=.reg (dA [] 33021)
def yc.t8:IR:=.reg (dA [] 64593478201171)
def yc.t9:IR:=.reg (dA [] 57144466986329)
def yc.zwh (r:List RO):List RO:=iQm 4 1::r
def yc.r9_3:List RO:=yc.zwh []
def yc.zex (r:List RO):List RO:=dA r 1621507736085283674073
def yc.r9_2:List RO:=yc.zex yc.r9_3
def yc.zew (r:List RO):List RO:=dA r 16556832749
def yc.r9_1:List RO:=yc.zew yc.r9_2
def yc.zev (r:List RO):List RO:=dA r 15039277180219008201
def yc.r9_0:List RO:=yc.zev yc.r9_1
def yc.t12:IR:=.reg yc.r9_0
def yc.t17:IR:=.reg (dA [] 255563399)
def yc.t20:IR:=.seq yc.t4 (.seq (.cond aT9 .skip (.exit 0)) (.seq (.block 1 (.seq yc.t6 (.seq yc.t7 (.seq (.seq yc.t8 (.cond aT10 yc.t9 .skip)) yc.t12)))) yc.t17))
def yc.t21:IR:=.loop yc.t20
def yc.t24:IR:=.reg (dA [] 1099196263019)
def yc.t29:IR:=.seq yc.t0 (.seq yc.t1 (.seq yc.t2 (.seq (.seq yc.t3 (.block 0 yc.t21)) (.seq yc.t24 .ret))))
def yc.b0:IR:=yc.t29
def yc.res:List RV:=[.t (.of 2)]
def yc:Fn:={ params:=[(.of 0),(.of 1)],res:=yc.res,body:=yc.b0,init:=in11 }
theorem yc.ok:fnA Tryz.prog Tryz.f271 [0,1,4,5,6,7,8,13,14,15,20]=some yc:=by kernel_rfl
abbrev gy.fr:=fr7
def gy.t0:IR:=.reg (dA [] 195874082675259)
def gy.t1:IR:=dI [] 8992028658366922370221285723629143431385
def gy.t2:IR:=.reg (dA [] 80674993922022299)
def gy.t5:IR:=.reg (dA [] 9728286704696314161335001960279318491618513)
def gy.t6:IR:=dI [] 3993262901844520354041049
def gy.t9:IR:=.seq (.seq gy.t2 (.cond aT6 .skip (.exit 0))) (.block 1 (.seq gy.t5 gy.t6))
def gy.t10:IR:=.loop gy.t9
def gy.t12:IR:=.reg (dA [] 13784305103)
def gy.t16:IR:=.seq gy.t0 (.seq gy.t1 (.seq (.block 0 gy.t10) (.seq gy.t12 .ret)))
def gy.b0:IR:=gy.t16
def gy.res:List RV:=[.cell (.of 4) (some 2)]
def gy:Fn:={ params:=[(.of 0),(.of 1)],res:=gy.res,body:=gy.b0,init:=in7 }
theorem gy.ok:fnA Tryz.prog Tryz.f272 [0,1,2,3,4,6,13]=some gy:=by kernel_rfl
abbrev uz.fr:=fr7
def uz.t0:IR:=.reg (dA [] 195874082675259)
def uz.t1:IR:=.reg (dA [] 39861122298977179)
def uz.t2:IR:=dI [] 8992028658366919801253842481348481882329
def uz.t5:IR:=.reg (dA [] 9704486129743599840011791702297499976654033)
def uz.t6:IR:=.reg (dA [] 13784315343)
def uz.t8:IR:=.seq uz.t5 (.seq uz.t6 .ret)
def uz.t10:IR:=.seq uz.t0 (.seq (.seq uz.t1 (.cond aT6 uz.t2 .skip)) uz.t8)
def uz.b0:IR:=uz.t10
def uz.res:List RV:=[.cell (.of 4) (some 2)]
def uz:Fn:={ params:=[(.of 0),(.of 1)],res:=uz.res,body:=uz.b0,init:=in7 }
theorem uz.ok:fnA Tryz.prog Tryz.f273 [0,1,2,3,4,5,9]=some uz:=by kernel_rfl
abbrev jh.fr:=fr12
def jh.t0:IR:=.reg (dA [] 135217663)
def jh.t1:IR:=.reg (dA [] 858200597291)
def jh.t2:IR:=.reg (dA [] 257581417259)
def jh.t3:IR:=.reg (dA [] 1785913533099)
def jh.t4:IR:=.reg (dA [] 253286449835)
def jh.t5:IR:=.reg (dA [] 2095742804819)
def jh.t6:IR:=.reg (dA [] 2077648012889832623796033)
def jh.t7:IR:=.reg (dA [] 17451575641387)
def jh.t8:IR:=.reg (dA [] 1975218472235)
def jh.t9:IR:=.reg (dA [] 18298762797222023587)
def jh.t10:IR:=.reg (dA [] 5068981389889129482223354232131)
def jh.t11:IR:=.reg (dA [] 111644071507)
def jh.t23:IR:=.seq jh.t0 (.seq jh.t1 (.seq jh.t2 (.seq jh.t3 (.seq jh.t4 (.seq jh.t5 (.seq jh.t6 (.seq jh.t7 (.seq jh.t8 (.seq jh.t9 (.seq jh.t10 (.seq jh.t11 .ret)))))))))))
def jh.b0:IR:=jh.t23
def jh.res:List RV:=[.t (.of 2),.t (.of 3)]
def jh:Fn:={ params:=[(.of 0),(.of 1)],res:=jh.res,body:=jh.b0,init:=in12 }
theorem jh.ok:fnA Tryz.prog Tryz.f274 [0,1,4,5,6,7,8,9,10,11,12,13]=some jh:=by kernel_rfl
abbrev xh.fr:=fr3
def xh.t0:IR:=.reg (dA [] 33149)
def xh.t1:IR:=.reg (dA [] 37219223)
def xh.t2:IR:=.reg (dA [] 7418514464339)
def xh.t6:IR:=.reg (dA [] 905580331)
def xh.t9:IR:=.seq xh.t0 (.seq (.seq xh.t1 (.cond aT2 (.seq xh.t2 .ret) .skip)) (.seq xh.t6 .ret))
def xh.b0:IR:=xh.t9
def xh.res:List RV:=[.t (.of 1)]
def xh:Fn:={ params:=[(.of 0)],res:=xh.res,body:=xh.b0,init:=in3 }
theorem xh.ok:fnA Tryz.prog Tryz.f275 [0,2,4]=some xh:=by kernel_rfl
abbrev zo.fr:=fr20
def zo.t0:IR:=.reg [iQo 2 (.mv (.c .zn))]
def zo.t1:IR:=.reg (dA [] 3928320031182976634496577)
def zo.t2:IR:=.reg (dA [] 285315827212027)
def zo.t3:IR:=.reg (dA [] 73592493)
def zo.t5:IR:=.reg (dA [] 8640787169011865817)
def zo.t6:IR:=.reg (dA [] 33021)
def zo.t7:IR:=.reg (dA [] 1242173840769403)
def zo.t8:IR:=.reg (dA [] 8971984301)
def zo.t10:IR:=.reg (dA [] 140563521256913754329)
def zo.t11:IR:=.reg (dA [] 4912299900183391684332465993)
def zo.t12:IR:=.reg (dA [] 66749)
def zo.zae (r:List RO):List RO:=dA r 4045644296558553
def zo.zc2:List RO:=zo.zae []
def zo.zad (r:List RO):List RO:=dA r 2600096223956016062863021549769
def zo.oQ:List RO:=zo.zad zo.zc2
def zo.t13:IR:=.reg zo.oQ
def zo.t14:IR:=.reg (dA [] 7558810716755)
def zo.t15:IR:=.reg (dA [] 4554990536613649057123678922953)
def zo.t16:IR:=.reg (dA [] 281679444592816401798498600279276856977)
def zo.t24:IR:=.reg (dA [] 8218587527)
def zo.t27:IR:=.seq zo.t8 (.seq (.cond aT19 .skip (.exit 2)) (.seq (.block 3 (.seq zo.t10 (.seq zo.t11 (.seq zo.t12 (.seq zo.t13 (.seq zo.t14 (.seq zo.t15 zo.t16))))))) zo.t24))
def zo.t28:IR:=.loop zo.t27
def zo.t31:IR:=.reg (dA [] 135163261977529520074368201)
def zo.t36:IR:=.reg (dA [] 3337499015)
def zo.t39:IR:=.seq zo.t3 (.seq (.cond aT15 .skip (.exit 0)) (.seq (.block 1 (.seq zo.t5 (.seq zo.t6 (.seq (.seq zo.t7 (.block 2 zo.t28)) zo.t31)))) zo.t36))
def zo.t40:IR:=.loop zo.t39
def zo.t43:IR:=.reg (dA [] 1099196263019)
def zo.t47:IR:=.seq zo.t0 (.seq zo.t1 (.seq (.seq zo.t2 (.block 0 zo.t40)) (.seq zo.t43 .ret)))
def zo.b0:IR:=zo.t47
def zo.res:List RV:=[.t (.of 2)]
def zo:Fn:={ params:=[(.of 0),(.of 1)],res:=zo.res,body:=zo.b0,init:=in20 }
theorem zo.ok:fnA Tryz.prog Tryz.f276 [0,1,4,5,6,7,8,9,10,11,12,13,20,21,22,23,27,28,29,30]=some zo:=by kernel_rfl
abbrev zi.fr:=fr22
def zi.t0:IR:=.reg (dA [] 273646591)
def zi.t1:IR:=.reg (dA [] 2549978429562508883)
def zi.t2:IR:=.reg (dA [] 1740767019)
def zi.t6:IR:=.reg (dA [] 509882094251)
def zi.t7:IR:=.reg (dA [] 56284730191947347)
def zi.t8:IR:=.reg (dA [] 33533)
def zi.t9:IR:=.reg (dA [] 1784395769427)
def zi.t10:IR:=.reg (dA [] 4827818167)
def zi.t13:IR:=dI [] 24282713469761667624318250841712055116325139782822818608670529490523069529
def zi.t15:IR:=.reg (dA [] 13940588907)
def zi.t17:IR:=.seq (.seq zi.t10 (.cond aT16 .skip (.exit 0))) (.seq (.block 1 zi.t13) zi.t15)
def zi.t18:IR:=.loop zi.t17
def zi.t21:IR:=.reg (dA [] 65650424801217910539515310101313)
def zi.t25:IR:=.seq zi.t7 (.seq zi.t8 (.seq (.seq zi.t9 (.block 0 zi.t18)) (.seq zi.t21 .ret)))
def zi.t28:IR:=.reg (dA [] 285262257496296409398859081)
def zi.t29:IR:=.reg (dA [] 18001313265018852914521)
def zi.t30:IR:=.reg (dA [] 15480562285065811)
def zi.t31:IR:=.reg (dA [] 1065174443)
def zi.t32:IR:=.reg (dA [] 2224335331120612397299443265)
def zi.t33:IR:=.reg (dA [] 2234158406870617)
def zi.t34:IR:=.reg (dA [] 9659833943)
def zi.zod (r:List RO):List RO:=dA r 7683072002895
def zi.zxn:List RO:=zi.zod []
def zi.zoc (r:List RO):List RO:=dA r 8929054037261221579
def zi.zxo:List RO:=zi.zoc zi.zxn
def zi.zob (r:List RO):List RO:=dA r 1124490644329487513336393
def zi.zoa:List RO:=zi.zob zi.zxo
def zi.t37:IR:=.reg zi.zoa
def zi.t39:IR:=.reg (dA [] 136329108651)
def zi.t41:IR:=.seq (.seq zi.t34 (.cond aT17 .skip (.exit 2))) (.seq (.block 3 zi.t37) zi.t39)
def zi.t42:IR:=.loop zi.t41
def zi.t45:IR:=.reg (dA [] 4420607295)
def zi.t46:IR:=.reg (dA [] 58130556589)
def zi.t48:IR:=.reg (dA [] 13223639)
def zi.t49:IR:=.reg (dA [] 553623180004812453075958712905)
def zi.zoh (r:List RO):List RO:=dA r 2279758181
def zi.zrk:List RO:=zi.zoh []
def zi.zog (r:List RO):List RO:=dA r 39952696453054896333598306166654217163465
def zi.zof:List RO:=zi.zog zi.zrk
def zi.t50:IR:=.reg zi.zof
def zi.zok (r:List RO):List RO:=dA r 36282604923518195824049854594987553
def zi.zxp:List RO:=zi.zok []
def zi.zoj (r:List RO):List RO:=dA r 17805051028487008984058441
def zi.zoi:List RO:=zi.zoj zi.zxp
def zi.t51:IR:=.fP [] (zi.zoi.map fun o=>(o,0,[]))
def zi.t57:IR:=.reg (dA [] 13889189511)
def zi.t60:IR:=.seq zi.t46 (.seq (.cond aT20 .skip (.exit 4)) (.seq (.block 5 (.seq zi.t48 (.seq zi.t49 (.seq zi.t50 (.cond aT21 zi.t51 .skip))))) zi.t57))
def zi.t61:IR:=.loop zi.t60
def zi.t64:IR:=dI [] 282051285741736923658183757668301119853145
def zi.t66:IR:=.seq (.seq zi.t45 (.block 4 zi.t61)) (.seq zi.t64 .ret)
def zi.t72:IR:=.seq zi.t28 (.seq zi.t29 (.seq zi.t30 (.seq zi.t31 (.seq zi.t32 (.seq (.seq zi.t33 (.block 2 zi.t42)) zi.t66)))))
def zi.t75:IR:=.seq zi.t0 (.seq (.seq zi.t1 (.cond aT14 (.seq zi.t2 .ret) .skip)) (.seq (.seq zi.t6 (.cond aT15 zi.t25 .skip)) zi.t72))
def zi.b0:IR:=zi.t75
def zi.res:List RV:=[.t (.of 2),.t (.of 3)]
def zi:Fn:={ params:=[(.of 0),(.of 1)],res:=zi.res,body:=zi.b0,init:=in22 }
theorem zi.ok:fnA Tryz.prog Tryz.f277 [0,1,4,5,6,7,8,9,10,11,12,13,14,15,19,23,31,81,96,97,98,115]=some zi:=by kernel_rfl
abbrev cZ.fr:=fr5
def cZ.t0:IR:=.reg (dA [] 195874082675259)
def cZ.t1:IR:=dI [] 2083019612164154535211300652174937
def cZ.t3:IR:=.seq cZ.t0 (.seq cZ.t1 .ret)
def cZ.b0:IR:=cZ.t3
def cZ.res:List RV:=[.cell (.of 4) (some 2)]
def cZ:Fn:={ params:=[(.of 0),(.of 1)],res:=cZ.res,body:=cZ.b0,init:=in5 }
theorem cZ.ok:fnA Tryz.prog Tryz.f278 [0,1,2,3,4]=some cZ:=by kernel_rfl
abbrev aW.fr:=fr2
def aW.b0:IR:=dI [] 2019848634538103936503
def aW.res:List RV:=[.t (.of 1)]
def aW:Fn:={ params:=[(.of 0)],res:=aW.res,body:=aW.b0,init:=in2 }
theorem aW.ok:fnA Tryz.prog Tryz.f311 [0,2]=some aW:=by kernel_rfl
abbrev vz.fr:=fr8
def vz.b3:IR:=dI [] 5878252168851486613402628632023392518161653020713516060343
def vz.b2:IR:=(.loop vz.b3)
def vz.g1 (X2:IR):IR:=(.block 0 X2)
def vz.b1:IR:=vz.g1 vz.b2
def vz.b0:IR:=dI [vz.b1] 14227581962846447
def vz.res:List RV:=[]
def vz:Fn:={ params:=[(.of 0),(.of 1)],res:=vz.res,body:=vz.b0,init:=in8 }
theorem vz.ok:fnA Tryz.prog Tryz.f312 [0,1,4,5,6,7,8,14]=some vz:=by kernel_rfl
abbrev F313.fr:=fr2
def F313.b0:IR:=dI [] 126242369242717558263
def F313.res:List RV:=[.t (.of 1)]
def F313:Fn:={ params:=[(.of 0)],res:=F313.res,body:=F313.b0,init:=in2 }
theorem F313.ok:fnA Tryz.prog Tryz.f313 [0,2]=some F313:=by kernel_rfl
abbrev F323.fr:=fr8
def F323.b0:IR:=dI [] 95734233484224559145682347750089892459716110357614630705294982463436726149237995602644983
def F323.res:List RV:=[.t (.of 2)]
def F323:Fn:={ params:=[(.of 0),(.of 1)],res:=F323.res,body:=F323.b0,init:=in8 }
theorem F323.ok:fnA Tryz.prog Tryz.f323 [0,1,4,5,6,7,8,15]=some F323:=by kernel_rfl
abbrev F324.fr:=fr3
def F324.b0:IR:=dI [] 1347836202774819723534730098419423754361859680245493645403724754372599
def F324.res:List RV:=[.t (.of 2)]
def F324:Fn:={ params:=[(.of 0),(.of 1)],res:=F324.res,body:=F324.b0,init:=in3 }
theorem F324.ok:fnA Tryz.prog Tryz.f324 [0,1,3]=some F324:=by kernel_rfl
abbrev F325.fr:=fr4
def F325.b0:IR:=dI [] 171227806921275227560038395777642231739573782911895033382206376616837623
def F325.res:List RV:=[.t (.of 3)]
def F325:Fn:={ params:=[(.of 0),(.of 1),(.of 2)],res:=F325.res,body:=F325.b0,init:=in4 }
theorem F325.ok:fnA Tryz.prog Tryz.f325 [0,1,2,5]=some F325:=by kernel_rfl
abbrev F326.fr:=fr6
def F326.b0:IR:=dI [] 49089212615821592954650138856643629233689801392953565133172359522350590401467026769523064187610340345091703393718847331792847685298505544369758354871916703662797253210626507255
def F326.res:List RV:=[.t (.of 3)]
def F326:Fn:={ params:=[(.of 0),(.of 1),(.of 2)],res:=F326.res,body:=F326.b0,init:=in6 }
theorem F326.ok:fnA Tryz.prog Tryz.f326 [0,1,2,4,5,6]=some F326:=by kernel_rfl
abbrev F327.fr:=fr6
def F327.b0:IR:=dI [] 137577276469745959426210630689721939904389293781548252803287763604749159884080570488366570196575106048470749548140470955702009381367
def F327.res:List RV:=[.t (.of 3)]
def F327:Fn:={ params:=[(.of 0),(.of 1),(.of 2)],res:=F327.res,body:=F327.b0,init:=in6 }
theorem F327.ok:fnA Tryz.prog Tryz.f327 [0,1,2,4,5,6]=some F327:=by kernel_rfl
abbrev F328.fr:=fr6
def F328.b0:IR:=dI [] 19169064092006379534545286496334785063953697483917060568173392496220983065246403259603515555496161355335748917431448121440162042389156939100675273347924288518305194379813093986690557515263384203340954202098920705545343
def F328.res:List RV:=[.cell (.of 2) (some 2)]
def F328:Fn:={ params:=[(.of 0)],res:=F328.res,body:=F328.b0,init:=in6 }
theorem F328.ok:fnA Tryz.prog Tryz.f328 [0,1,2,3,4,13]=some F328:=by kernel_rfl
abbrev F329.fr:=fr2
def F329.b0:IR:=dI [] 4548131746521160796619777684900025847
def F329.res:List RV:=[.t (.of 1)]
def F329:Fn:={ params:=[(.of 0)],res:=F329.res,body:=F329.b0,init:=in2 }
theorem F329.ok:fnA Tryz.prog Tryz.f329 [0,2]=some F329:=by kernel_rfl
abbrev qm.fr:=fr8
def qm.b3:IR:=dI [] 12327588292450462135467937848580213342685458132168990691931508407
def qm.b2:IR:=(.loop qm.b3)
def qm.g1 (X2:IR):IR:=(.block 0 X2)
def qm.b1:IR:=qm.g1 qm.b2
def qm.b8:IR:=dI [] 6981623
def qm.b0:IR:=dI [qm.b1,qm.b8] 279462288862966892535
def qm.res:List RV:=[.t (.of 2)]
def qm:Fn:={ params:=[(.of 0),(.of 1)],res:=qm.res,body:=qm.b0,init:=in8 }
theorem qm.ok:fnA Tryz.prog Tryz.f330 [0,1,4,5,7,8,9,16]=some qm:=by kernel_rfl
abbrev jq.fr:=fr4
def jq.t0:IR:=.reg [iQo 1 (.mv (.c .zn))]
def jq.t1:IR:=.reg (dA [] 67064619)
def jq.zwg (r:List RO):List RO:=dA r 76148517129622063
def jq.r2_1:List RO:=jq.zwg []
def jq.zwf (r:List RO):List RO:=dA r 2234826046551577728827805794575492287689
def jq.r2_0:List RO:=jq.zwf jq.r2_1
def jq.t2:IR:=.reg jq.r2_0
def jq.t5:IR:=.reg (dA [] 4285941355)
def jq.t7:IR:=.seq (.seq jq.t2 (.cond aT3 .skip (.exit 0))) (.block 1 jq.t5)
def jq.t8:IR:=.loop jq.t7
def jq.t10:IR:=.reg (dA [] 59355369256531)
def jq.t14:IR:=.seq jq.t0 (.seq jq.t1 (.seq (.block 0 jq.t8) (.seq jq.t10 .ret)))
def jq.b0:IR:=jq.t14
def jq.res:List RV:=[.t (.of 1)]
def jq:Fn:={ params:=[(.of 0)],res:=jq.res,body:=jq.b0,init:=in4 }
theorem jq.ok:fnA Tryz.prog Tryz.f332 [0,2,3,15]=some jq:=by kernel_rfl
abbrev xq.fr:=fr4
def xq.t0:IR:=.reg (dA [] 722679071)
def xq.t1:IR:=.reg (dA [] 76023621947)
def xq.t2:IR:=.reg (dA [] 34255823873878939)
def xq.t6:IR:=.reg (dA [] 8167216591)
def xq.t9:IR:=.seq xq.t0 (.seq (.seq xq.t1 (.cond aT3 (.seq xq.t2 .ret) .skip)) (.seq xq.t6 .ret))
def xq.b0:IR:=xq.t9
def xq.res:List RV:=[.cell (.of 2) (some 2)]
def xq:Fn:={ params:=[(.of 0)],res:=xq.res,body:=xq.b0,init:=in4 }
theorem xq.ok:fnA Tryz.prog Tryz.f334 [0,1,2,5]=some xq:=by kernel_rfl
abbrev zk.fr:=fr23
def zk.t0:IR:=.reg (dA [] 134692991)
def zk.t1:IR:=.reg (dA [] 4406204215)
def zk.t4:IR:=.reg (dA [] 1053486192235)
def zk.t7:IR:=.reg (dA [] 2203921303)
def zk.t8:IR:=dI [] 123195528315808315234285867609
def zk.t12:IR:=.reg (dA [] 8440984497544403)
def zk.t13:IR:=.reg (dA [] 8794701016275)
def zk.t14:IR:=.reg (dA [] 446443357803)
def zk.t15:IR:=.reg (dA [] 4052863403627)
def zk.t16:IR:=.reg (dA [] 4947092986150832762069355978512707)
def zk.t17:IR:=.reg (dA [] 15117588878675)
def zk.t18:IR:=.reg (dA [] 2181376902443)
def zk.t19:IR:=.reg (dA [] 15802308199723)
def zk.t20:IR:=.reg (dA [] 69817763810131)
def zk.t21:IR:=.reg (dA [] 58206852136662374051)
def zk.zno (r:List RO):List RO:=dA r 3911987919176977180107779738464147
def zk.zrl:List RO:=zk.zno []
def zk.znn (r:List RO):List RO:=dA r 149313628633691188776537883747857105288051017
def zk.znm:List RO:=zk.znn zk.zrl
def zk.t22:IR:=.reg zk.znm
def zk.t25:IR:=.reg (dA [] 4362996358315)
def zk.t26:IR:=.reg (dA [] 6940331966803)
def zk.t27:IR:=.reg (dA [] 384396251223)
def zk.t33:IR:=.seq (.seq zk.t22 (.cond aT19 .skip (.exit 0))) (.block 1 (.seq zk.t25 (.seq zk.t26 (.seq zk.t27 (.cond aT20 (.exit 0) .skip)))))
def zk.t34:IR:=.loop zk.t33
def zk.t36:IR:=.reg (dA [] 15764248769171095467509560651075)
def zk.t37:IR:=.reg (dA [] 262778380818643)
def zk.t38:IR:=.reg (dA [] 465654817093298303395)
def zk.znr (r:List RO):List RO:=dA r 3911983586386839681276817664929683
def zk.zrm:List RO:=zk.znr []
def zk.znq (r:List RO):List RO:=dA r 597254514534764755106151534989775608651477321
def zk.znp:List RO:=zk.znq zk.zrm
def zk.t39:IR:=.reg zk.znp
def zk.t42:IR:=.reg (dA [] 8210596640939)
def zk.t43:IR:=.reg (dA [] 6940331966803)
def zk.t44:IR:=.reg (dA [] 768777867351)
def zk.t50:IR:=.seq (.seq zk.t39 (.cond aT21 .skip (.exit 2))) (.block 3 (.seq zk.t42 (.seq zk.t43 (.seq zk.t44 (.cond aT22 (.exit 2) .skip)))))
def zk.t51:IR:=.loop zk.t50
def zk.znu (r:List RO):List RO:=dA r 965974217929117312977432905
def zk.zxq:List RO:=zk.znu []
def zk.znt (r:List RO):List RO:=dA r 609348390076025549435702360393
def zk.zns:List RO:=zk.znt zk.zxq
def zk.t53:IR:=.reg zk.zns
def zk.t54:IR:=.seq zk.t53 .ret
def zk.t58:IR:=.seq zk.t36 (.seq zk.t37 (.seq zk.t38 (.seq (.block 2 zk.t51) zk.t54)))
def zk.t73:IR:=.seq zk.t0 (.seq (.seq zk.t1 (.cond aT16 (.bad 2) .skip)) (.seq (.seq zk.t4 (.cond aT17 (.bad 4) .skip)) (.seq (.seq zk.t7 (.cond aT18 (.seq zk.t8 .ret) .skip)) (.seq zk.t12 (.seq zk.t13 (.seq zk.t14 (.seq zk.t15 (.seq zk.t16 (.seq zk.t17 (.seq zk.t18 (.seq zk.t19 (.seq zk.t20 (.seq zk.t21 (.seq (.block 0 zk.t34) zk.t58))))))))))))))
def zk.b0:IR:=zk.t73
def zk.res:List RV:=[.t (.of 3),.t (.of 4)]
def zk:Fn:={ params:=[(.of 0),(.of 1),(.of 2)],res:=zk.res,body:=zk.b0,init:=in23 }
theorem zk.ok:fnA Tryz.prog Tryz.f335 [0,1,2,6,7,8,9,10,11,12,13,14,15,16,17,18,20,24,27,78,85,113,120]=some zk:=by kernel_rfl
abbrev bZ.fr:=fr2
def bZ.t0:IR:=.reg [iQo 1 (.mv aC0)]
def bZ.t1:IR:=.reg (dA [] 486261254750727763)
def bZ.t3:IR:=.seq bZ.t0 (.seq bZ.t1 .ret)
def bZ.b0:IR:=bZ.t3
def bZ.res:List RV:=[.t (.of 1)]
def bZ:Fn:={ params:=[(.of 0)],res:=bZ.res,body:=bZ.b0,init:=in2 }
theorem bZ.ok:fnA Tryz.prog Tryz.f336 [0,2]=some bZ:=by kernel_rfl
abbrev jd.fr:=fr11
def jd.t0:IR:=.reg [iQo 2 (.mv (.c .zn))]
def jd.t1:IR:=.reg (dA [] 239765626902284772953)
def jd.t2:IR:=.reg (dA [] 4840807850491)
def jd.t3:IR:=.reg (dA [] 156659117)
def jd.t5:IR:=.reg (dA [] 270024599676988249)
def jd.t6:IR:=dI [] 623321804258796050235422479130166672897659993
def jd.t7:IR:=.reg (dA [] 591375191)
def jd.t8:IR:=.reg (dA [] 36282242612442237452888727311782723)
def jd.t14:IR:=.reg (dA [] 255563399)
def jd.t17:IR:=.seq jd.t3 (.seq (.cond aT9 .skip (.exit 0)) (.seq (.block 1 (.seq jd.t5 (.seq jd.t6 (.seq jd.t7 (.cond aT10 jd.t8 .skip))))) jd.t14))
def jd.t18:IR:=.loop jd.t17
def jd.t21:IR:=.reg (dA [] 261431)
def jd.t25:IR:=.seq jd.t0 (.seq jd.t1 (.seq (.seq jd.t2 (.block 0 jd.t18)) (.seq jd.t21 .ret)))
def jd.b0:IR:=jd.t25
def jd.res:List RV:=[.t (.of 2)]
def jd:Fn:={ params:=[(.of 0),(.of 1)],res:=jd.res,body:=jd.b0,init:=in11 }
theorem jd.ok:fnA Tryz.prog Tryz.f337 [0,1,4,5,6,7,12,13,14,15,29]=some jd:=by kernel_rfl
abbrev zf.fr:=fr27
def zf.t0:IR:=.reg (dA [] 16893)
def zf.t1:IR:=.reg (dA [] 54481579)
def zf.t2:IR:=.reg (dA [] 274677823)
def zf.t3:IR:=.reg (dA [] 33021)
def zf.t4:IR:=dI [] 21181968019797830044154809878911669130329
def zf.t5:IR:=.reg (dA [] 188477)
def zf.zwi (r:List RO):List RO:=dA r 914484288755673
def zf.r5_2:List RO:=zf.zwi []
def zf.ze4 (r:List RO):List RO:=dA r 296986500171017883
def zf.r5_1:List RO:=zf.ze4 zf.r5_2
def zf.ze3 (r:List RO):List RO:=dA r 69808052284077425899081
def zf.r5_0:List RO:=zf.ze3 zf.r5_1
def zf.t6:IR:=.fP [] (zf.r5_0.map fun o=>(o,0,[]))
def zf.zwl (r:List RO):List RO:=dA r 527567864928217
def zf.r6_2:List RO:=zf.zwl []
def zf.zwk (r:List RO):List RO:=dA r 19256182776125414457608066593
def zf.r6_1:List RO:=zf.zwk zf.r6_2
def zf.zwj (r:List RO):List RO:=dA r 139101934434285150090825
def zf.r6_0:List RO:=zf.zwj zf.r6_1
def zf.t8:IR:=.fP [] (zf.r6_0.map fun o=>(o,0,[]))
def zf.t11:IR:=.reg (dA [] 8815683767)
def zf.t14:IR:=.reg (dA [] 41502147683455085198150036998198804516145)
def zf.zex (r:List RO):List RO:=dA r 25893827941
def zf.r9_2:List RO:=zf.zex []
def zf.zew (r:List RO):List RO:=dA r 424916349372313626789121403649880291949001298133724318584713
def zf.r9_1:List RO:=zf.zew zf.r9_2
def zf.zev (r:List RO):List RO:=dA r 2043332287999310363631900211237577
def zf.r9_0:List RO:=zf.zev zf.r9_1
def zf.t15:IR:=.reg zf.r9_0
def zf.t18:IR:=.reg (dA [] 107201577387)
def zf.t19:IR:=.reg (dA [] 2264153432696080257369467251873516131892529)
def zf.t24:IR:=.seq (.seq zf.t11 (.cond aT18 .skip (.exit 0))) (.block 1 (.seq zf.t14 (.seq (.seq zf.t15 (.cond aT19 (.exit 0) .skip)) (.seq zf.t18 zf.t19))))
def zf.t25:IR:=.loop zf.t24
def zf.t27:IR:=.reg (dA [] 2212299647)
def zf.t28:IR:=.reg (dA [] 2195536319)
def zf.t29:IR:=.reg (dA [] 86008618413)
def zf.t31:IR:=.reg (dA [] 15063575)
def zf.t32:IR:=.reg (dA [] 16778866384296672848104558371559250577)
def zf.t33:IR:=.reg (dA [] 131517)
def zf.t34:IR:=.reg (dA [] 15764643811284542786368376504649)
def zf.t35:IR:=.reg (dA [] 34908155263315)
def zf.zn1 (r:List RO):List RO:=iQm 9 1::r
def zf.zxr:List RO:=zf.zn1 []
def zf.zn0 (r:List RO):List RO:=dA r 1621507736085283674073
def zf.zxs:List RO:=zf.zn0 zf.zxr
def zf.znz (r:List RO):List RO:=dA r 16556832749
def zf.zxt:List RO:=zf.znz zf.zxs
def zf.zny (r:List RO):List RO:=dA r 756510715200981079625
def zf.znx:List RO:=zf.zny zf.zxt
def zf.t36:IR:=.reg zf.znx
def zf.t43:IR:=.reg (dA [] 13654347911)
def zf.t46:IR:=.seq zf.t29 (.seq (.cond aT22 .skip (.exit 2)) (.seq (.block 3 (.seq zf.t31 (.seq zf.t32 (.seq zf.t33 (.seq zf.t34 (.seq zf.t35 zf.t36)))))) zf.t43))
def zf.t47:IR:=.loop zf.t46
def zf.zn6 (r:List RO):List RO:=iQm 9 1::r
def zf.zxu:List RO:=zf.zn6 []
def zf.zn5 (r:List RO):List RO:=dA r 1621507736085283674073
def zf.zxv:List RO:=zf.zn5 zf.zxu
def zf.zn4 (r:List RO):List RO:=dA r 16556832749
def zf.zxw:List RO:=zf.zn4 zf.zxv
def zf.zn3 (r:List RO):List RO:=dA r 47637704069316425289
def zf.zn2:List RO:=zf.zn3 zf.zxw
def zf.t50:IR:=.reg zf.zn2
def zf.t51:IR:=.reg (dA [] 35263457943)
def zf.t52:IR:=.reg (dA [] 261335)
def zf.t56:IR:=.reg (dA [] 134077)
def zf.t57:IR:=.reg (dA [] 9290007871)
def zf.t58:IR:=.reg (dA [] 3427728578221)
def zf.t60:IR:=.reg (dA [] 51106359)
def zf.t61:IR:=dI [] 203538514723573603880240827566961247986933982518861497595009544124226202223860825
def zf.t64:IR:=.reg (dA [] 62742237575)
def zf.t67:IR:=.seq zf.t58 (.seq (.cond aT26 .skip (.exit 4)) (.seq (.block 5 (.seq zf.t60 zf.t61)) zf.t64))
def zf.t68:IR:=.loop zf.t67
def zf.t71:IR:=.reg (dA [] 17300724375152192273904907849)
def zf.t72:IR:=.reg (dA [] 137266348459)
def zf.t76:IR:=.seq zf.t56 (.seq (.seq zf.t57 (.block 4 zf.t68)) (.seq zf.t71 (.seq zf.t72 .ret)))
def zf.t80:IR:=.seq zf.t27 (.seq (.seq zf.t28 (.block 2 zf.t47)) (.seq zf.t50 (.seq (.seq zf.t51 (.cond aT23 (.seq zf.t52 .ret) .skip)) zf.t76)))
def zf.t81:IR:=.seq (.block 0 zf.t25) zf.t80
def zf.t86:IR:=.seq zf.t0 (.seq zf.t1 (.seq zf.t2 (.seq zf.t3 (.seq (.seq zf.t4 (.cond aT17 (.seq zf.t5 zf.t6) zf.t8)) zf.t81))))
def zf.b0:IR:=zf.t86
def zf.res:List RV:=[.t (.of 2)]
def zf:Fn:={ params:=[(.of 0),(.of 1)],res:=zf.res,body:=zf.b0,init:=in27 }
theorem zf.ok:fnA Tryz.prog Tryz.f338 [0,1,4,5,6,7,8,9,10,11,12,13,14,15,16,17,18,30,64,91,104,105,106,154,156,157,158]=some zf:=by kernel_rfl
abbrev yx.fr:=fr5
def yx.t0:IR:=.reg [iQo 1 (.mv aC0)]
def yx.t1:IR:=.reg (dA [] 3003116439)
def yx.t2:IR:=.reg (dA [] 1988453237547)
def yx.t3:IR:=.reg [iQo 1 (.mv aC32)]
def yx.t7:IR:=.reg (dA [] 57730296727)
def yx.t8:IR:=.reg (dA [] 15905992770347)
def yx.t9:IR:=.reg (dA [] 28932424363)
def yx.t13:IR:=.reg (dA [] 40550411159)
def yx.t14:IR:=.reg (dA [] 15905187463979)
def yx.t15:IR:=.reg (dA [] 57887802027)
def yx.t19:IR:=.reg (dA [] 65255153687795553926616385)
def yx.t20:IR:=.seq yx.t19 .ret
def yx.t21:IR:=.seq (.seq yx.t13 (.cond aT4 (.seq yx.t14 yx.t15) .skip)) yx.t20
def yx.t22:IR:=.seq (.seq yx.t7 (.cond aT3 (.seq yx.t8 yx.t9) .skip)) yx.t21
def yx.t24:IR:=.seq yx.t0 (.seq (.seq yx.t1 (.cond aT2 (.seq yx.t2 yx.t3) .skip)) yx.t22)
def yx.b0:IR:=yx.t24
def yx.res:List RV:=[.t (.of 1)]
def yx:Fn:={ params:=[(.of 0)],res:=yx.res,body:=yx.b0,init:=in5 }
theorem yx.ok:fnA Tryz.prog Tryz.f348 [0,2,4,8,14]=some yx:=by kernel_rfl
abbrev vk.fr:=fr7
def vk.b3:IR:=(.reg [iQo 4 (.mv aT6)])
def vk.b4:IR:=dI [] 301815382828051005788912150193
def vk.b6:IR:=dI [] 28570175
def vk.b0:IR:=dI [vk.b3,vk.b4,vk.b6] 284594604911609345358998320255
def vk.res:List RV:=[.t (.of 3)]
def vk:Fn:={ params:=[(.of 0),(.of 1)],res:=vk.res,body:=vk.b0,init:=in7 }
theorem vk.ok:fnA Tryz.prog Tryz.f381 [0,1,2,4,5,6,7]=some vk:=by kernel_rfl
abbrev F382.fr:=fr2
def F382.b0:IR:=dI [] 129247760653051093915127
def F382.res:List RV:=[.t (.of 1)]
def F382:Fn:={ params:=[(.of 0)],res:=F382.res,body:=F382.b0,init:=in2 }
theorem F382.ok:fnA Tryz.prog Tryz.f382 [0,2]=some F382:=by kernel_rfl
abbrev F412.fr:=fr11
def F412.b0:IR:=dI [] 63499947811307176918956420091596031839987194019065873053204136218916463918364796730532575405304929971358619962204575319875358581724312818672618736175686271938269940547931332853065643098046077660596448656918333616506517141157689019952899656818843506505964552405744742281659972358135
def F412.res:List RV:=[.t (.of 2)]
def F412:Fn:={ params:=[(.of 0),(.of 1)],res:=F412.res,body:=F412.b0,init:=in11 }
theorem F412.ok:fnA Tryz.prog Tryz.f412 [0,1,4,5,6,7,9,11,17,23,34]=some F412:=by kernel_rfl
abbrev F413.fr:=fr3
def F413.b0:IR:=dI [] 6045238986454571641131745751064078715474259144583565469543086072587687415
def F413.res:List RV:=[.t (.of 1)]
def F413:Fn:={ params:=[(.of 0)],res:=F413.res,body:=F413.b0,init:=in3 }
theorem F413.ok:fnA Tryz.prog Tryz.f413 [0,2,4]=some F413:=by kernel_rfl
abbrev F414.fr:=fr3
def F414.b0:IR:=dI [] 2815208772015068924970759583461626455597718935830462806042314231
def F414.res:List RV:=[.t (.of 1)]
def F414:Fn:={ params:=[(.of 0)],res:=F414.res,body:=F414.b0,init:=in3 }
theorem F414.ok:fnA Tryz.prog Tryz.f414 [0,2,3]=some F414:=by kernel_rfl
abbrev F415.fr:=fr19
def F415.b0:IR:=dI [] 1153807034506097035758706362450369998975881142559533329364172553330655910882691058195493854956837148233816238279003359562204556350132368326129855637834534660208762272002356003789649897000521958474708188944085364736051071130034663963304997997606638009692248921490146590257806835961610784788688965509583119905541225468589902660314008444782388635766514825956494805546392905571943365043197030029356343595029392408324198076745328754293693419084928502654680472051540507837008310975419639401541613119668693367770658087902244575488519958562130669414777119751510289582571652627957947326839326161576592571801512054640266530438052903159399214487177930821717365589959595962675026233660499054783602836379265973437426220165865884079684256542292767978036018499418662477629059632364857069820795023319526641523539781610530687304607688389221078561128879629668674476333188767982259619740306757508787410833723566079197312588166548655
def F415.res:List RV:=[]
def F415:Fn:={ params:=[(.of 0),(.of 1)],res:=F415.res,body:=F415.b0,init:=in19 }
theorem F415.ok:fnA Tryz.prog Tryz.f415 [0,1,4,5,6,7,8,9,10,11,12,13,14,15,16,20,99,139,161]=some F415:=by kernel_rfl
abbrev F416.fr:=fr21
def F416.b0:IR:=dI [] 255188153242669602313472259649902385749943177232902918220725357192085002800684819287322926565296337925301614787247987146207126576501940585584328367977742187611564603733018581943192031838895333572087298621699701296324016786671966686145396805661680596159136940704897276769906009306915857014089333017551862829893719565811033813881866842549985239516745940845697778969309738892741903347623689663010539354226200855583368718865211026549159203965420679026097970486890076282768633710400986794232929459507855090740475825788346416172085966753226232233375570943
def F416.res:List RV:=[.t (.of 5),.t (.of 6)]
def F416:Fn:={ params:=[(.of 0),(.of 1),(.of 2),(.of 3),(.of 4)],res:=F416.res,body:=F416.b0,init:=in21 }
theorem F416.ok:fnA Tryz.prog Tryz.f416 [0,1,2,3,4,10,11,12,13,14,15,16,17,18,28,30,34,46,68,89,94]=some F416:=by kernel_rfl
abbrev F427.fr:=fr2
def F427.b0:IR:=dI [] 8273355944513231093990903
def F427.res:List RV:=[.t (.of 1)]
def F427:Fn:={ params:=[(.of 0)],res:=F427.res,body:=F427.b0,init:=in2 }
theorem F427.ok:fnA Tryz.prog Tryz.f427 [0,2]=some F427:=by kernel_rfl
abbrev F428.fr:=fr3
def F428.b0:IR:=dI [] 15772375729076716865160695
def F428.res:List RV:=[.t (.of 1)]
def F428:Fn:={ params:=[(.of 0)],res:=F428.res,body:=F428.b0,init:=in3 }
theorem F428.ok:fnA Tryz.prog Tryz.f428 [0,2,3]=some F428:=by kernel_rfl
abbrev F429.fr:=fr2
def F429.b0:IR:=dI [] 8471068632535773341460338167
def F429.res:List RV:=[.t (.of 1)]
def F429:Fn:={ params:=[(.of 0)],res:=F429.res,body:=F429.b0,init:=in2 }
theorem F429.ok:fnA Tryz.prog Tryz.f429 [0,2]=some F429:=by kernel_rfl
end
end Go.Ev
