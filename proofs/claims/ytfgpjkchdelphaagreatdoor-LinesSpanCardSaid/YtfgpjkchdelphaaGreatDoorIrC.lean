import Derived.Test.YtfgpjkchdelphaaGreatDoorIrA
import Derived.Test.YtfgpjkchdelphaaGreatDoorEvC
import Derived.Test.YtfgpjkchdelphaaGreatDoorProg
import Derived.KernelRfl
set_option linter.unusedSimpArgs false
set_option linter.unusedVariables false
namespace Go.Ev
open Go Go.Proofs
set_option maxRecDepth 100000
noncomputable section

abbrev zb.fr:=fr29
def zb.t0:IR:=.reg (dA [] 112702783)
def zb.t1:IR:=.reg (dA [] 15499112809028775379)
def zb.t2:IR:=.reg (dA [] 397754091)
def zb.t6:IR:=.reg (dA [] 1040656420331)
def zb.t7:IR:=.reg (dA [] 30173315009364511061016657245985)
def zb.t8:IR:=.reg (dA [] 444969341988228071411657)
def zb.t13:IR:=.reg (dA [] 81570726367537014244691320384237345)
def zb.t14:IR:=.reg (dA [] 2095629831859155)
def zb.t15:IR:=.reg (dA [] 66687595)
def zb.t16:IR:=.reg (dA [] 885222908335110953521805961)
def zb.t17:IR:=.reg (dA [] 73029982612143625673)
def zb.t20:IR:=.reg (dA [] 422232661683084793299)
def zb.t22:IR:=.seq (.seq zb.t17 (.cond aT23 .skip (.exit 0))) (.block 1 zb.t20)
def zb.t23:IR:=.loop zb.t22
def zb.t25:IR:=.reg (dA [] 9429348326588537001417)
def zb.t26:IR:=.reg (dA [] 8056693666733249993)
def zb.t27:IR:=.reg (dA [] 14255380279)
def zb.t30:IR:=.reg (dA [] 477592600478457894353)
def zb.t31:IR:=.reg [iQo 13 (.mv aC0)]
def zb.t32:IR:=.reg [iQo 14 (.mv aC0)]
def zb.t33:IR:=.reg (dA [] 4360425114603)
def zb.t36:IR:=.reg (dA [] 49378644498668324403093614467)
def zb.t37:IR:=.reg (dA [] 79138476671380597226683453998520097)
def zb.t38:IR:=.reg (dA [] 678790192747)
def zb.t39:IR:=.reg (dA [] 57747083255)
def zb.t40:IR:=.reg (dA [] 2093843226603)
def zb.t41:IR:=.reg (dA [] 5317467499)
def zb.t45:IR:=.reg (dA [] 266614183001532004938230691)
def zb.t51:IR:=.reg (dA [] 77206916075)
def zb.t53:IR:=.seq (.seq zb.t33 (.cond aT25 .skip (.exit 4))) (.seq (.block 5 (.seq zb.t36 (.seq zb.t37 (.seq zb.t38 (.seq (.seq zb.t39 (.cond aT26 (.seq zb.t40 zb.t41) .skip)) zb.t45))))) zb.t51)
def zb.t54:IR:=.loop zb.t53
def zb.zni (r:List RO):List RO:=dA r 8332214468555824307404073
def zb.zwu:List RO:=zb.zni []
def zb.znh (r:List RO):List RO:=dA r 61739465251363109836249
def zb.zng:List RO:=zb.znh zb.zwu
def zb.t57:IR:=.reg zb.zng
def zb.t58:IR:=.reg (dA [] 8155514819045866454854563)
def zb.t59:IR:=.reg (dA [] 27814800363)
def zb.t60:IR:=.reg [iQo 17 (.mv aC0)]
def zb.t61:IR:=.reg [iQo 18 (.mv aC0)]
def zb.t62:IR:=.reg (dA [] 8700449185771)
def zb.zno (r:List RO):List RO:=dA r 267348360547052043561
def zb.zwv:List RO:=zb.zno []
def zb.znn (r:List RO):List RO:=dA r 16916224670666043126945241
def zb.znm:List RO:=zb.znn zb.zwv
def zb.t65:IR:=.rO [] (zb.znm.map λo=>(o,0,[]))
def zb.t66:IR:=.reg (dA [] 139796360706563907652062774531545)
def zb.t67:IR:=.reg (dA [] 1082702449643)
def zb.t71:IR:=.reg (dA [] 220985876459)
def zb.t73:IR:=.seq (.seq zb.t62 (.cond aT28 .skip (.exit 6))) (.seq (.block 7 (.seq zb.t65 (.seq zb.t66 zb.t67))) zb.t71)
def zb.t74:IR:=.loop zb.t73
def zb.znu (r:List RO):List RO:=dA r 16664428937111657231973673
def zb.zww:List RO:=zb.znu []
def zb.znt (r:List RO):List RO:=dA r 61739465251363109836249
def zb.zns:List RO:=zb.znt zb.zww
def zb.t77:IR:=.reg zb.zns
def zb.t79:IR:=.seq zb.t60 (.seq (.seq zb.t61 (.block 6 zb.t74)) zb.t77)
def zb.t83:IR:=.reg (dA [] 3972876168083387601)
def zb.t85:IR:=.seq zb.t57 (.seq (.seq zb.t58 (.cond aT27 (.seq zb.t59 zb.t79) .skip)) zb.t83)
def zb.t87:IR:=.seq zb.t31 (.seq (.seq zb.t32 (.block 4 zb.t54)) zb.t85)
def zb.t90:IR:=.reg (dA [] 30013525611)
def zb.t92:IR:=.seq (.seq zb.t27 (.cond aT24 .skip (.exit 2))) (.seq (.block 3 (.seq zb.t30 zb.t87)) zb.t90)
def zb.t93:IR:=.loop zb.t92
def zb.t96:IR:=dI [] 12885177478789366011179585060400200470130931324151783709729
def zb.t97:IR:=.reg (dA [] 1700645392581850321)
def zb.t106:IR:=.seq zb.t13 (.seq zb.t14 (.seq zb.t15 (.seq zb.t16 (.seq (.block 0 zb.t23) (.seq zb.t25 (.seq (.seq zb.t26 (.block 2 zb.t93)) (.seq zb.t96 (.seq zb.t97 .ret))))))))
def zb.t109:IR:=.seq zb.t0 (.seq (.seq zb.t1 (.cond aT21 (.seq zb.t2 .ret) .skip)) (.seq (.seq zb.t6 (.cond aT22 (.seq zb.t7 (.seq zb.t8 .ret)) .skip)) zb.t106))
def zb.b0:IR:=zb.t109
def zb.res:List RV:=[.t (.of 2),.t (.of 3)]
def zb:Fn:={ params:=[(.of 0),(.of 1)],res:=zb.res,body:=zb.b0,init:=in29 }
theorem zb.ok:fnA Tryz.prog Tryz.f213 [0,1,4,5,6,7,8,9,10,11,12,13,14,15,16,17,18,19,20,21,22,27,31,68,83,92,115,145,150]=some zb:=by kernel_rfl
abbrev fA.fr:=fr3
def fA.t0:IR:=.reg (dA [] 257485)
def fA.t1:IR:=.reg (dA [] 32954113515)
def fA.t2:IR:=.reg (dA [] 147745342874756842346142033702788588067715)
def fA.t5:IR:=.seq fA.t0 (.seq fA.t1 (.seq fA.t2 .ret))
def fA.b0:IR:=fA.t5
def fA.res:List RV:=[.cell (.of 2) (some 2)]
def fA:Fn:={ params:=[(.of 0),(.of 1)],res:=fA.res,body:=fA.b0,init:=in3 }
theorem fA.ok:fnA Tryz.prog Tryz.f214 [0,1,4]=some fA:=by kernel_rfl
abbrev yg.fr:=fr8
def yg.t0:IR:=.reg [iQo 2 (.mv (.c .ze))]
def yg.t1:IR:=.reg [iQo 3 (.mv (.c .ze))]
def yg.t2:IR:=.reg [iQo 4 (.mv aC0)]
def yg.t3:IR:=.reg [iQo 5 (.mv aC0)]
def yg.aK (r:List RO):List RO:=dA r 58370927041644036068197748693912617
def yg.oU:List RO:=yg.aK []
def yg.aJ (r:List RO):List RO:=dA r 9021437038542044017649898457
def yg.aZ:List RO:=yg.aJ yg.oU
def yg.t4:IR:=.reg yg.aZ
def yg.t5:IR:=.cond aT7 .skip (.exit 0)
def yg.t7:IR:=.reg (dA [] 1291928336590980536437585921387771681)
def yg.t8:IR:=.reg (dA [] 455134525100792950101993673)
def yg.t9:IR:=.reg (dA [] 24719230315)
def yg.t13:IR:=.reg (dA [] 1597802987)
def yg.t14:IR:=.seq (.block 1 (.seq yg.t7 (.seq yg.t8 yg.t9))) yg.t13
def yg.t15:IR:=.seq (.seq yg.t4 yg.t5) yg.t14
def yg.t16:IR:=.loop yg.t15
def yg.t19:IR:=.reg (dA [] 7735)
def yg.t20:IR:=.seq yg.t19 .ret
def yg.t24:IR:=.seq yg.t0 (.seq yg.t1 (.seq yg.t2 (.seq (.seq yg.t3 (.block 0 yg.t16)) yg.t20)))
def yg.b0:IR:=yg.t24
def yg.res:List RV:=[.t (.of 2)]
def yg:Fn:={ params:=[(.of 0),(.of 1)],res:=yg.res,body:=yg.b0,init:=in8 }
theorem yg.ok:fnA Tryz.prog Tryz.f215 [0,1,4,5,6,7,8,22]=some yg:=by kernel_rfl
abbrev yo.fr:=fr9
def yo.t0:IR:=.reg [iQo 2 (.mv aC0)]
def yo.t1:IR:=.reg (dA [] 1045336637414865)
def yo.t2:IR:=.reg (dA [] 1054407608344017)
def yo.t3:IR:=.reg [iQo 2 (.mv (.c (I (-1))))]
def yo.t7:IR:=.reg [iQo 2 (.mv aC1)]
def yo.t12:IR:=.reg (dA [] 202878590419)
def yo.t13:IR:=.reg (dA [] 222426679)
def yo.t16:IR:=dI [] 162237671051332994564739395973217
def yo.t17:IR:=.reg [iQo 2 (.mv (.c (I (-1))))]
def yo.t21:IR:=dI [] 648084570629430478772749285421153
def yo.t22:IR:=.reg [iQo 2 (.mv aC1)]
def yo.t28:IR:=.reg (dA [] 792495211)
def yo.t30:IR:=.seq (.seq yo.t13 (.cond aT6 .skip (.exit 0))) (.seq (.block 1 (.seq (.seq yo.t16 (.cond aT7 (.seq yo.t17 .ret) .skip)) (.seq yo.t21 (.cond aT8 (.seq yo.t22 .ret) .skip)))) yo.t28)
def yo.t31:IR:=.loop yo.t30
def yo.t34:IR:=.reg [iQo 2 (.mv aC0)]
def yo.t38:IR:=.seq yo.t0 (.seq (.seq yo.t1 (.cond aT4 (.seq (.seq yo.t2 (.cond aT5 (.seq yo.t3 .ret) .skip)) (.seq yo.t7 .ret)) .skip)) (.seq (.seq yo.t12 (.block 0 yo.t31)) (.seq yo.t34 .ret)))
def yo.b0:IR:=yo.t38
def yo.res:List RV:=[.t (.of 2)]
def yo:Fn:={ params:=[(.of 0),(.of 1)],res:=yo.res,body:=yo.b0,init:=in9 }
theorem yo.ok:fnA Tryz.prog Tryz.f216 [0,1,4,5,10,15,20,31,40]=some yo:=by kernel_rfl
abbrev yj.fr:=fr9
def yj.t0:IR:=.reg [iQo 2 (.mv (.c .ze))]
def yj.t1:IR:=.reg [iQo 3 (.mv (.c .ze))]
def yj.t2:IR:=.reg [iQo 4 (.mv aC0)]
def yj.t3:IR:=.reg [iQo 5 (.mv aC0)]
def yj.t4:IR:=.reg (dA [] 16488003916755)
def yj.t7:IR:=dI [] 11142359614158756522499908043424930569448565793
def yj.t8:IR:=.reg [iQo 4 (.mv aC0)]
def yj.t9:IR:=.reg (dA [] 451930807)
def yj.t10:IR:=.reg (dA [] 4163667307)
def yj.t11:IR:=.reg [iQo 4 (.mv aC1)]
def yj.t15:IR:=.reg (dA [] 875544525204516858065)
def yj.t20:IR:=.reg (dA [] 1597802987)
def yj.t22:IR:=.seq (.seq yj.t4 (.cond aT7 .skip (.exit 0))) (.seq (.block 1 (.seq yj.t7 (.seq yj.t8 (.seq (.seq yj.t9 (.cond aT8 (.seq yj.t10 yj.t11) .skip)) yj.t15)))) yj.t20)
def yj.t23:IR:=.loop yj.t22
def yj.t26:IR:=.reg (dA [] 15774243947)
def yj.t27:IR:=.seq yj.t26 .ret
def yj.t31:IR:=.seq yj.t0 (.seq yj.t1 (.seq yj.t2 (.seq (.seq yj.t3 (.block 0 yj.t23)) yj.t27)))
def yj.b0:IR:=yj.t31
def yj.res:List RV:=[.t (.of 2)]
def yj:Fn:={ params:=[(.of 0),(.of 1)],res:=yj.res,body:=yj.b0,init:=in9 }
theorem yj.ok:fnA Tryz.prog Tryz.f217 [0,1,4,5,6,7,8,12,26]=some yj:=by kernel_rfl
abbrev zn.fr:=fr10
def zn.t0:IR:=.reg [iQo 2 (.mv (.c .ze))]
def zn.t1:IR:=.reg (dA [] 13920945234697139731363)
def zn.t2:IR:=.reg [iQo 4 (.mv aC0)]
def zn.t3:IR:=.reg (dA [] 32916253822931)
def zn.t6:IR:=.reg [iQo 5 (.mv aC0)]
def zn.t7:IR:=.reg [iQo 6 (.mv aC0)]
def zn.t8:IR:=.reg (dA [] 32946318461651)
def zn.zfm (r:List RO):List RO:=dA r 499550699
def zn.r7_2:List RO:=zn.zfm []
def zn.zfl (r:List RO):List RO:=dA r 2290494748506268957687097
def zn.r7_1:List RO:=zn.zfl zn.r7_2
def zn.zfk (r:List RO):List RO:=dA r 2340196742352068929753
def zn.r7_0:List RO:=zn.zfk zn.r7_1
def zn.t11:IR:=.rO [] (zn.r7_0.map λo=>(o,0,[]))
def zn.t12:IR:=.reg (dA [] 68259941751251897648488638681)
def zn.t13:IR:=.reg (dA [] 102028640875)
def zn.t17:IR:=.reg (dA [] 524060011)
def zn.t19:IR:=.seq (.seq zn.t8 (.cond aT9 .skip (.exit 2))) (.seq (.block 3 (.seq zn.t11 (.seq zn.t12 zn.t13))) zn.t17)
def zn.t20:IR:=.loop zn.t19
def zn.zm9 (r:List RO):List RO:=dA r 1092054504436611765636836262713
def zn.zwx:List RO:=zn.zm9 []
def zn.zm8 (r:List RO):List RO:=dA r 108944553975950600409
def zn.zm7:List RO:=zn.zm8 zn.zwx
def zn.t23:IR:=.reg zn.zm7
def zn.t27:IR:=.reg (dA [] 389842923)
def zn.t29:IR:=.seq (.seq zn.t3 (.cond aT8 .skip (.exit 0))) (.seq (.block 1 (.seq zn.t6 (.seq (.seq zn.t7 (.block 2 zn.t20)) zn.t23))) zn.t27)
def zn.t30:IR:=.loop zn.t29
def zn.t33:IR:=.reg (dA [] 15774243947)
def zn.t37:IR:=.seq zn.t0 (.seq zn.t1 (.seq (.seq zn.t2 (.block 0 zn.t30)) (.seq zn.t33 .ret)))
def zn.b0:IR:=zn.t37
def zn.res:List RV:=[.t (.of 2)]
def zn:Fn:={ params:=[(.of 0),(.of 1)],res:=zn.res,body:=zn.b0,init:=in10 }
theorem zn.ok:fnA Tryz.prog Tryz.f218 [0,1,4,5,6,7,8,9,19,25]=some zn:=by kernel_rfl
abbrev vz.fr:=fr9
def vz.b3:IR:=dI [] 374230261050572105271477869864892993464341228347639906942903
def vz.b2:IR:=(.loop vz.b3)
def vz.g1 (X2:IR):IR:=(.block 0 X2)
def vz.b1:IR:=vz.g1 vz.b2
def vz.b8:IR:=dI [] 555231
def vz.b0:IR:=dI [vz.b1,vz.b8] 111321360180642460915503707383
def vz.res:List RV:=[.t (.of 2)]
def vz:Fn:={ params:=[(.of 0),(.of 1)],res:=vz.res,body:=vz.b0,init:=in9 }
theorem vz.ok:fnA Tryz.prog Tryz.f219 [0,1,4,5,7,8,9,10,11]=some vz:=by kernel_rfl
abbrev F220.fr:=fr3
def F220.b0:IR:=dI [] 10225186705794204868269183
def F220.res:List RV:=[.t (.of 2)]
def F220:Fn:={ params:=[(.of 0)],res:=F220.res,body:=F220.b0,init:=in3 }
theorem F220.ok:fnA Tryz.prog Tryz.f220 [0,1,2]=some F220:=by kernel_rfl
abbrev F221.fr:=fr3
def F221.b0:IR:=dI [] 653687571642988443282953343
def F221.res:List RV:=[.t (.of 2)]
def F221:Fn:={ params:=[(.of 0)],res:=F221.res,body:=F221.b0,init:=in3 }
theorem F221.ok:fnA Tryz.prog Tryz.f221 [0,1,2]=some F221:=by kernel_rfl
abbrev F222.fr:=fr3
def F222.b0:IR:=dI [] 328689587925416590031180927
def F222.res:List RV:=[.t (.of 2)]
def F222:Fn:={ params:=[(.of 0)],res:=F222.res,body:=F222.b0,init:=in3 }
theorem F222.ok:fnA Tryz.prog Tryz.f222 [0,1,2]=some F222:=by kernel_rfl
abbrev F223.fr:=fr3
def F223.b0:IR:=dI [] 654887052729637333167232127
def F223.res:List RV:=[.t (.of 2)]
def F223:Fn:={ params:=[(.of 0)],res:=F223.res,body:=F223.b0,init:=in3 }
theorem F223.ok:fnA Tryz.prog Tryz.f223 [0,1,2]=some F223:=by kernel_rfl
abbrev F224.fr:=fr3
def F224.b0:IR:=dI [] 119774269737643190869327890062867209566057607126144660905685822707307631743
def F224.res:List RV:=[.t (.of 2)]
def F224:Fn:={ params:=[(.of 0)],res:=F224.res,body:=F224.b0,init:=in3 }
theorem F224.ok:fnA Tryz.prog Tryz.f224 [0,1,2]=some F224:=by kernel_rfl
abbrev F225.fr:=fr6
def F225.b0:IR:=dI [] 17168882617156635242032076629518532698490411185006542089526525494500656960520661578011601031673773103368486435143533253189975052012753032071832459056037696986460296053444753216639
def F225.res:List RV:=[.t (.of 2)]
def F225:Fn:={ params:=[(.of 0)],res:=F225.res,body:=F225.b0,init:=in6 }
theorem F225.ok:fnA Tryz.prog Tryz.f225 [0,1,2,3,4,13]=some F225:=by kernel_rfl
abbrev F226.fr:=fr6
def F226.b0:IR:=dI [] 810814534381907255378693920440586257935467383237109361373505927462368130768952898869463488705087128750287213695
def F226.res:List RV:=[.t (.of 2)]
def F226:Fn:={ params:=[(.of 0)],res:=F226.res,body:=F226.b0,init:=in6 }
theorem F226.ok:fnA Tryz.prog Tryz.f226 [0,1,2,5,8,13]=some F226:=by kernel_rfl
abbrev F227.fr:=fr3
def F227.b0:IR:=dI [] 198158105145099870664267767368687101788680554796159
def F227.res:List RV:=[.t (.of 2)]
def F227:Fn:={ params:=[(.of 0)],res:=F227.res,body:=F227.b0,init:=in3 }
theorem F227.ok:fnA Tryz.prog Tryz.f227 [0,1,2]=some F227:=by kernel_rfl
abbrev F228.fr:=fr8
def F228.b0:IR:=dI [] 1953464556883844246768088329466075156504998593135729651860056854050717925733307168203991405197620051474281302846189936904217786557301922161695965289490658431
def F228.res:List RV:=[.cell (.of 3) (some 2)]
def F228:Fn:={ params:=[(.of 0),(.of 1)],res:=F228.res,body:=F228.b0,init:=in8 }
theorem F228.ok:fnA Tryz.prog Tryz.f228 [0,1,2,4,5,8,13,18]=some F228:=by kernel_rfl
abbrev F229.fr:=fr8
def F229.b0:IR:=dI [] 872017686641165566901917762780124569495262945267509020885696103573844245634596325748582828525716293824000966624947976260400704704918729334002772207
def F229.res:List RV:=[.t (.of 4)]
def F229:Fn:={ params:=[(.of 0),(.of 1)],res:=F229.res,body:=F229.b0,init:=in8 }
theorem F229.ok:fnA Tryz.prog Tryz.f229 [0,1,2,3,4,12,13,19]=some F229:=by kernel_rfl
abbrev F234.fr:=fr8
def F234.b0:IR:=dI [] 575711716391828199555293807149435450248626129213436372334039392099121205475587133483693303
def F234.res:List RV:=[.t (.of 2)]
def F234:Fn:={ params:=[(.of 0),(.of 1)],res:=F234.res,body:=F234.b0,init:=in8 }
theorem F234.ok:fnA Tryz.prog Tryz.f234 [0,1,4,5,7,8,9,16]=some F234:=by kernel_rfl
abbrev F235.fr:=fr15
def F235.b0:IR:=dI [] 41346260134032836584221362412598163318939302921236949789933808170204693555403366809235024367533668389265792966546477205887977841243064804816584200223506530171612721334061821081459381433343656321262521373175
def F235.res:List RV:=[.t (.of 1)]
def F235:Fn:={ params:=[(.of 0)],res:=F235.res,body:=F235.b0,init:=in15 }
theorem F235.ok:fnA Tryz.prog Tryz.f235 [0,2,3,5,6,8,9,10,11,12,20,25,26,27,28]=some F235:=by kernel_rfl
abbrev F236.fr:=fr5
def F236.b0:IR:=dI [] 11339210319770280856710351345379567
def F236.res:List RV:=[.t (.of 4)]
def F236:Fn:={ params:=[(.of 0),(.of 1)],res:=F236.res,body:=F236.b0,init:=in5 }
theorem F236.ok:fnA Tryz.prog Tryz.f236 [0,1,2,3,4]=some F236:=by kernel_rfl
abbrev F237.fr:=fr8
def F237.b0:IR:=dI [] 2535790398571985202021094203569137821427361903859679394991726753436417363569236232771846203529606059398959006192119
def F237.res:List RV:=[.t (.of 1)]
def F237:Fn:={ params:=[(.of 0)],res:=F237.res,body:=F237.b0,init:=in8 }
theorem F237.ok:fnA Tryz.prog Tryz.f237 [0,2,3,5,6,7,8,9]=some F237:=by kernel_rfl
abbrev F238.fr:=fr4
def F238.b0:IR:=dI [] 357840156761427370536439
def F238.res:List RV:=[.t (.of 3)]
def F238:Fn:={ params:=[(.of 0),(.of 1),(.of 2)],res:=F238.res,body:=F238.b0,init:=in4 }
theorem F238.ok:fnA Tryz.prog Tryz.f238 [0,1,2,4]=some F238:=by kernel_rfl
abbrev F239.fr:=fr4
def F239.b0:IR:=dI [] 357839228228607947533815
def F239.res:List RV:=[.t (.of 3)]
def F239:Fn:={ params:=[(.of 0),(.of 1),(.of 2)],res:=F239.res,body:=F239.b0,init:=in4 }
theorem F239.ok:fnA Tryz.prog Tryz.f239 [0,1,2,4]=some F239:=by kernel_rfl
abbrev F242.fr:=fr2
def F242.b0:IR:=dI [] 303916287742002811383
def F242.res:List RV:=[.t (.of 1)]
def F242:Fn:={ params:=[(.of 0)],res:=F242.res,body:=F242.b0,init:=in2 }
theorem F242.ok:fnA Tryz.prog Tryz.f242 [0,2]=some F242:=by kernel_rfl
abbrev F243.fr:=fr2
def F243.b0:IR:=dI [] 39460951280133258393642596260316920751
def F243.res:List RV:=[]
def F243:Fn:={ params:=[(.of 0)],res:=F243.res,body:=F243.b0,init:=in2 }
theorem F243.ok:fnA Tryz.prog Tryz.f243 [0,2]=some F243:=by kernel_rfl
abbrev F244.fr:=fr8
def F244.b0:IR:=dI [] 2692504307386368453669658738526720194692824356186995864841972203402297276783
def F244.res:List RV:=[]
def F244:Fn:={ params:=[(.of 0),(.of 1)],res:=F244.res,body:=F244.b0,init:=in8 }
theorem F244.ok:fnA Tryz.prog Tryz.f244 [0,1,4,5,6,7,8,14]=some F244:=by kernel_rfl
abbrev vk.fr:=fr8
def vk.b3:IR:=dI [] 4897636804135882267693722770432862167546901745466502038078607287
def vk.b2:IR:=(.loop vk.b3)
def vk.g1 (X2:IR):IR:=(.block 0 X2)
def vk.b1:IR:=vk.g1 vk.b2
def vk.b8:IR:=dI [] 2370807
def vk.b0:IR:=dI [vk.b1,vk.b8] 829408658496929314039
def vk.res:List RV:=[.t (.of 2)]
def vk:Fn:={ params:=[(.of 0),(.of 1)],res:=vk.res,body:=vk.b0,init:=in8 }
theorem vk.ok:fnA Tryz.prog Tryz.f245 [0,1,4,5,7,8,9,16]=some vk:=by kernel_rfl
abbrev qc.fr:=fr3
def qc.t0:IR:=.reg (dA [] 624882975)
def qc.zf1 (r:List RO):List RO:=dA r 4691587584690890873827713171
def qc.r1_3:List RO:=qc.zf1 []
def qc.zaf (r:List RO):List RO:=dA r 621413332701
def qc.r1_2:List RO:=qc.zaf qc.r1_3
def qc.rR (r:List RO):List RO:=dA r 12979972768709451104251411
def qc.sQ:List RO:=qc.rR qc.r1_2
def qc.rQ (r:List RO):List RO:=dA r 23873699247
def qc.si:List RO:=qc.rQ qc.sQ
def qc.t1:IR:=.reg qc.si
def qc.t3:IR:=.seq qc.t0 (.seq qc.t1 .ret)
def qc.b0:IR:=qc.t3
def qc.res:List RV:=[.t (.of 2)]
def qc:Fn:={ params:=[(.of 0)],res:=qc.res,body:=qc.b0,init:=in3 }
theorem qc.ok:fnA Tryz.prog Tryz.f246 [0,1,2]=some qc:=by kernel_rfl
abbrev jq.fr:=fr8
def jq.t0:IR:=.reg [iQo 2 (.mv aC0)]
def jq.t1:IR:=.reg (dA [] 7378312939)
def jq.t2:IR:=.reg (dA [] 66319341)
def jq.t4:IR:=.reg (dA [] 97527)
def jq.t5:IR:=.reg (dA [] 4561841890658806729)
def jq.t6:IR:=.reg (dA [] 7735)
def jq.t12:IR:=.reg (dA [] 99870535)
def jq.t15:IR:=.seq jq.t2 (.seq (.cond aT6 .skip (.exit 0)) (.seq (.block 1 (.seq jq.t4 (.seq jq.t5 (.cond aT7 (.seq jq.t6 .ret) .skip)))) jq.t12))
def jq.t16:IR:=.loop jq.t15
def jq.t19:IR:=.reg [iQo 2 (.mv (.c (I (-1))))]
def jq.t22:IR:=.seq jq.t0 (.seq (.seq jq.t1 (.block 0 jq.t16)) (.seq jq.t19 .ret))
def jq.b0:IR:=jq.t22
def jq.res:List RV:=[.t (.of 2)]
def jq:Fn:={ params:=[(.of 0),(.of 1)],res:=jq.res,body:=jq.b0,init:=in8 }
theorem jq.ok:fnA Tryz.prog Tryz.f247 [0,1,4,5,7,8,9,16]=some jq:=by kernel_rfl
abbrev rF.fr:=fr2
def rF.t0:IR:=.reg [iQo 1 (.mv (.c (.str [])))]
def rF.t1:IR:=.reg (dA [] 32958832363)
def rF.t3:IR:=.seq rF.t0 (.seq rF.t1 .ret)
def rF.b0:IR:=rF.t3
def rF.res:List RV:=[.t (.of 1)]
def rF:Fn:={ params:=[(.of 0)],res:=rF.res,body:=rF.b0,init:=in2 }
theorem rF.ok:fnA Tryz.prog Tryz.f248 [0,2]=some rF:=by kernel_rfl
abbrev qz.fr:=fr6
def qz.t0:IR:=.reg (dA [] 7386446031419)
def qz.t1:IR:=.reg (dA [] 51492364582323)
def qz.t4:IR:=.reg (dA [] 1639134837171)
def qz.t5:IR:=.reg (dA [] 56354111)
def qz.t12:IR:=dI [] 2051666062873736834969217302186341415413857
def qz.t15:IR:=.seq qz.t0 (.seq (.block 0 (.seq qz.t1 (.cond aT4 (.seq (.rO [] [(.s (.zao 0 aT1),0,[]),(.s (.load aS0),0,[]),(.s (.bin .lss .int aS0 aC0),0,[]),(.s (.zao 1 aT1),0,[]),(.s (.load aS0),0,[]),(iQm 2 2,0,[]),(iQm 3 0,0,[])]) .ret) (.seq qz.t4 (.cond aT5 (.seq qz.t5 .ret) .skip))))) (.seq qz.t12 .ret))
def qz.b0:IR:=qz.t15
def qz.res:List RV:=[.t (.of 2),.t (.of 3)]
def qz:Fn:={ params:=[(.of 0)],res:=qz.res,body:=qz.b0,init:=in6 }
theorem qz.ok:fnA Tryz.prog Tryz.f249 [0,1,2,3,4,13]=some qz:=by kernel_rfl
abbrev uy.fr:=fr7
def uy.t0:IR:=.reg (dA [] 1010691607484987)
def uy.t1:IR:=dI [] 376348556277026445137782909343914972449
def uy.t2:IR:=.reg (dA [] 30064679853693787)
def uy.t5:IR:=.reg (dA [] 2522948732129879971231090705872093480802977)
def uy.t6:IR:=dI [] 668529331942842201200225
def uy.t9:IR:=.seq (.seq uy.t2 (.cond aT6 .skip (.exit 0))) (.block 1 (.seq uy.t5 uy.t6))
def uy.t10:IR:=.loop uy.t9
def uy.t12:IR:=.reg (dA [] 4254141871)
def uy.t16:IR:=.seq uy.t0 (.seq uy.t1 (.seq (.block 0 uy.t10) (.seq uy.t12 .ret)))
def uy.b0:IR:=uy.t16
def uy.res:List RV:=[.cell (.of 4) (some 2)]
def uy:Fn:={ params:=[(.of 0),(.of 1)],res:=uy.res,body:=uy.b0,init:=in7 }
theorem uy.ok:fnA Tryz.prog Tryz.f258 [0,1,2,3,4,6,13]=some uy:=by kernel_rfl
abbrev qx.fr:=fr7
def qx.t0:IR:=.reg (dA [] 1010691607484987)
def qx.t1:IR:=.reg (dA [] 15146506088029019)
def qx.t2:IR:=dI [] 376348556277025443996058704631598339361
def qx.t5:IR:=.reg (dA [] 2333303537059055387253236128609964422912673)
def qx.t6:IR:=.reg (dA [] 8508358063)
def qx.t8:IR:=.seq qx.t5 (.seq qx.t6 .ret)
def qx.t10:IR:=.seq qx.t0 (.seq (.seq qx.t1 (.cond aT6 qx.t2 .skip)) qx.t8)
def qx.b0:IR:=qx.t10
def qx.res:List RV:=[.cell (.of 4) (some 2)]
def qx:Fn:={ params:=[(.of 0),(.of 1)],res:=qx.res,body:=qx.b0,init:=in7 }
theorem qx.ok:fnA Tryz.prog Tryz.f259 [0,1,2,3,4,5,9]=some qx:=by kernel_rfl
abbrev jl.fr:=fr12
def jl.t0:IR:=.reg (dA [] 4487415103)
def jl.t1:IR:=.reg (dA [] 403118851819)
def jl.t2:IR:=.reg (dA [] 411879442155)
def jl.t3:IR:=.reg (dA [] 540557805035)
def jl.t4:IR:=.reg (dA [] 514958657003)
def jl.t5:IR:=.reg (dA [] 1091929034707)
def jl.t6:IR:=.reg (dA [] 6930827251418684722620323)
def jl.t7:IR:=.reg (dA [] 35147580050155)
def jl.t8:IR:=.reg (dA [] 7694831717099)
def jl.t9:IR:=.reg (dA [] 9206378500693406921)
def jl.t10:IR:=.reg (dA [] 147710407365249248119640139651)
def jl.t11:IR:=.reg (dA [] 101183778259)
def jl.t23:IR:=.seq jl.t0 (.seq jl.t1 (.seq jl.t2 (.seq jl.t3 (.seq jl.t4 (.seq jl.t5 (.seq jl.t6 (.seq jl.t7 (.seq jl.t8 (.seq jl.t9 (.seq jl.t10 (.seq jl.t11 .ret)))))))))))
def jl.b0:IR:=jl.t23
def jl.res:List RV:=[.t (.of 2),.t (.of 3)]
def jl:Fn:={ params:=[(.of 0),(.of 1)],res:=jl.res,body:=jl.b0,init:=in12 }
theorem jl.ok:fnA Tryz.prog Tryz.f263 [0,1,4,5,6,7,8,9,10,11,12,13]=some jl:=by kernel_rfl
abbrev dm.fr:=fr3
def dm.t0:IR:=.reg (dA [] 136317)
def dm.t1:IR:=.reg (dA [] 28211063)
def dm.t2:IR:=.reg (dA [] 264580779475)
def dm.t6:IR:=.reg (dA [] 64595691)
def dm.t9:IR:=.seq dm.t0 (.seq (.seq dm.t1 (.cond aT2 (.seq dm.t2 .ret) .skip)) (.seq dm.t6 .ret))
def dm.b0:IR:=dm.t9
def dm.res:List RV:=[.t (.of 1)]
def dm:Fn:={ params:=[(.of 0)],res:=dm.res,body:=dm.b0,init:=in3 }
theorem dm.ok:fnA Tryz.prog Tryz.f264 [0,2,4]=some dm:=by kernel_rfl
abbrev jo.fr:=fr5
def jo.t0:IR:=.reg (dA [] 38013)
def jo.t1:IR:=.reg [iQo 2 (.mv aC0)]
def jo.t2:IR:=.reg (dA [] 16474692313299)
def jo.zfq (r:List RO):List RO:=dA r 806096321516172047
def jo.r3_1:List RO:=jo.zfq []
def jo.zfp (r:List RO):List RO:=dA r 79308015457580044269607155428825
def jo.r3_0:List RO:=jo.zfp jo.r3_1
def jo.t5:IR:=.reg jo.r3_0
def jo.t11:IR:=.reg (dA [] 60702827)
def jo.t13:IR:=.seq (.seq jo.t2 (.cond aT3 .skip (.exit 0))) (.seq (.block 1 (.seq jo.t5 (.cond aT4 (.seq (.reg (dA [] 38013)) .ret) .skip))) jo.t11)
def jo.t14:IR:=.loop jo.t13
def jo.t17:IR:=.reg (dA [] 91261)
def jo.t20:IR:=.seq jo.t0 (.seq (.seq jo.t1 (.block 0 jo.t14)) (.seq jo.t17 .ret))
def jo.b0:IR:=jo.t20
def jo.res:List RV:=[.t (.of 1)]
def jo:Fn:={ params:=[(.of 0)],res:=jo.res,body:=jo.b0,init:=in5 }
theorem jo.ok:fnA Tryz.prog Tryz.f267 [0,2,3,7,19]=some jo:=by kernel_rfl
abbrev jh.fr:=fr9
def jh.t0:IR:=.reg (dA [] 28816703)
def jh.t1:IR:=.reg (dA [] 101885132512723)
def jh.t2:IR:=.reg [iQo 5 (.mv aC0)]
def jh.t3:IR:=.reg (dA [] 134159113683)
def jh.t4:IR:=.reg (dA [] 890235575)
def jh.t7:IR:=.reg (dA [] 4505028690792552023725017)
def jh.t8:IR:=.reg (dA [] 8331573392196579276201891)
def jh.t9:IR:=.reg (dA [] 817009247443)
def jh.t13:IR:=.reg (dA [] 1048118635)
def jh.t15:IR:=.seq (.seq jh.t4 (.cond aT8 .skip (.exit 0))) (.seq (.block 1 (.seq jh.t7 (.seq jh.t8 jh.t9))) jh.t13)
def jh.t16:IR:=.loop jh.t15
def jh.t19:IR:=.reg (dA [] 53145155194023889)
def jh.t24:IR:=.seq jh.t0 (.seq jh.t1 (.seq jh.t2 (.seq (.seq jh.t3 (.block 0 jh.t16)) (.seq jh.t19 .ret))))
def jh.b0:IR:=jh.t24
def jh.res:List RV:=[.t (.of 2),.t (.of 3)]
def jh:Fn:={ params:=[(.of 0),(.of 1)],res:=jh.res,body:=jh.b0,init:=in9 }
theorem jh.ok:fnA Tryz.prog Tryz.f268 [0,1,4,5,6,7,8,9,17]=some jh:=by kernel_rfl
abbrev uf.fr:=fr3
def uf.t0:IR:=.reg [iQo 1 (.mv (.c .ze))]
def uf.rR (r:List RO):List RO:=dA r 2969751272101056647025966166195
def uf.sQ:List RO:=uf.rR []
def uf.rQ (r:List RO):List RO:=dA r 613847536975868212813653983993305
def uf.si:List RO:=uf.rQ uf.sQ
def uf.t1:IR:=.reg uf.si
def uf.t4:IR:=.reg (dA [] 386669881564607737289)
def uf.t6:IR:=.seq (.seq uf.t1 (.cond aT2 .skip (.exit 0))) (.block 1 uf.t4)
def uf.t7:IR:=.loop uf.t6
def uf.t9:IR:=.reg (dA [] 16247)
def uf.t12:IR:=.seq uf.t0 (.seq (.block 0 uf.t7) (.seq uf.t9 .ret))
def uf.b0:IR:=uf.t12
def uf.res:List RV:=[.t (.of 1)]
def uf:Fn:={ params:=[(.of 0)],res:=uf.res,body:=uf.b0,init:=in3 }
theorem uf.ok:fnA Tryz.prog Tryz.f269 [0,2,14]=some uf:=by kernel_rfl
abbrev zm.fr:=fr10
def zm.t0:IR:=.reg [iQo 3 (.mv aC0)]
def zm.t1:IR:=.reg (dA [] 6082027)
def zm.zvr (r:List RO):List RO:=dA r 28858163746509393978974425
def zm.r2_1:List RO:=zm.zvr []
def zm.zfo (r:List RO):List RO:=dA r 1039130485104348574543321
def zm.r2_0:List RO:=zm.zfo zm.r2_1
def zm.t2:IR:=.rO [] (zm.r2_0.map λo=>(o,0,[]))
def zm.zfq (r:List RO):List RO:=dA r 1160252255456408745818975193
def zm.r3_1:List RO:=zm.zfq []
def zm.zfp (r:List RO):List RO:=dA r 5972774642787002446762969
def zm.r3_0:List RO:=zm.zfp zm.r3_1
def zm.t3:IR:=.rO [] (zm.r3_0.map λo=>(o,0,[]))
def zm.zae (r:List RO):List RO:=dA r 4484012596156200882910995271702538617040588634996924236254249
def zm.r4_2:List RO:=zm.zae []
def zm.aK (r:List RO):List RO:=dA r 2712726095456241779744571187045599329484109980079702707837049
def zm.oU:List RO:=zm.aK zm.r4_2
def zm.aJ (r:List RO):List RO:=dA r 1301170900409718329039731876531785339243225
def zm.aZ:List RO:=zm.aJ zm.oU
def zm.t4:IR:=.rO [] (zm.aZ.map λo=>(o,0,[]))
def zm.t5:IR:=.cond aT8 .skip (.exit 0)
def zm.t7:IR:=.reg (dA [] 1048118635)
def zm.t8:IR:=.reg (dA [] 562427616316322650768601)
def zm.t9:IR:=.reg (dA [] 756476215)
def zm.t10:IR:=.reg (dA [] 96951)
def zm.t16:IR:=.block 1 (.seq zm.t7 (.seq zm.t8 (.seq zm.t9 (.cond aT9 (.seq zm.t10 .ret) .skip))))
def zm.t17:IR:=.seq (.seq zm.t4 zm.t5) zm.t16
def zm.t18:IR:=.loop zm.t17
def zm.t20:IR:=.reg (dA [] 96951)
def zm.t21:IR:=.seq zm.t20 .ret
def zm.t26:IR:=.seq zm.t0 (.seq zm.t1 (.seq zm.t2 (.seq zm.t3 (.seq (.block 0 zm.t18) zm.t21))))
def zm.b0:IR:=zm.t26
def zm.res:List RV:=[.t (.of 3)]
def zm:Fn:={ params:=[(.of 0),(.of 1),(.of 2)],res:=zm.res,body:=zm.b0,init:=in10 }
theorem zm.ok:fnA Tryz.prog Tryz.f270 [0,1,2,6,7,8,9,10,63,74]=some zm:=by kernel_rfl
abbrev pu.fr:=fr4
def pu.t0:IR:=.reg [iQo 2 (.mv aC0)]
def pu.t1:IR:=.reg (dA [] 4118685871059)
def pu.t2:IR:=.reg (dA [] 507062906321)
def pu.t6:IR:=.reg [iQo 2 (.mv aC0)]
def pu.t9:IR:=.seq pu.t0 (.seq (.seq pu.t1 (.cond aT3 (.seq pu.t2 .ret) .skip)) (.seq pu.t6 .ret))
def pu.b0:IR:=pu.t9
def pu.res:List RV:=[.t (.of 2)]
def pu:Fn:={ params:=[(.of 0),(.of 1)],res:=pu.res,body:=pu.b0,init:=in4 }
theorem pu.ok:fnA Tryz.prog Tryz.f271 [0,1,4,8]=some pu:=by kernel_rfl
abbrev F272.fr:=fr8
def F272.b0:IR:=dI [] 171696657056376714884049766778686208984727165946256515762743526336960844822223404014605559
def F272.res:List RV:=[.t (.of 2)]
def F272:Fn:={ params:=[(.of 0),(.of 1)],res:=F272.res,body:=F272.b0,init:=in8 }
theorem F272.ok:fnA Tryz.prog Tryz.f272 [0,1,4,5,6,7,8,15]=some F272:=by kernel_rfl
abbrev F273.fr:=fr3
def F273.b0:IR:=dI [] 27331563983429214617195395770215326964222777541225474542993001592055
def F273.res:List RV:=[.t (.of 2)]
def F273:Fn:={ params:=[(.of 0),(.of 1)],res:=F273.res,body:=F273.b0,init:=in3 }
theorem F273.ok:fnA Tryz.prog Tryz.f273 [0,1,3]=some F273:=by kernel_rfl
abbrev F274.fr:=fr4
def F274.b0:IR:=dI [] 14438321844606676163186542927160079089577243450058281548810780322655735
def F274.res:List RV:=[.t (.of 3)]
def F274:Fn:={ params:=[(.of 0),(.of 1),(.of 2)],res:=F274.res,body:=F274.b0,init:=in4 }
theorem F274.ok:fnA Tryz.prog Tryz.f274 [0,1,2,5]=some F274:=by kernel_rfl
abbrev F275.fr:=fr6
def F275.b0:IR:=dI [] 271254674343738221221138106999263890680252999171176185856198604757331036826881309217537709039191773428349088019899932301185489080214891861849633256749011041735819903828530155056631
def F275.res:List RV:=[.t (.of 3)]
def F275:Fn:={ params:=[(.of 0),(.of 1),(.of 2)],res:=F275.res,body:=F275.b0,init:=in6 }
theorem F275.ok:fnA Tryz.prog Tryz.f275 [0,1,2,4,5,6]=some F275:=by kernel_rfl
abbrev F276.fr:=fr6
def F276.b0:IR:=dI [] 23756797472873040522435211627345388204543233775677581145406428184709384418449666626120736073512820692377407770860506765521308714102263
def F276.res:List RV:=[.t (.of 3)]
def F276:Fn:={ params:=[(.of 0),(.of 1),(.of 2)],res:=F276.res,body:=F276.b0,init:=in6 }
theorem F276.ok:fnA Tryz.prog Tryz.f276 [0,1,2,4,5,6]=some F276:=by kernel_rfl
abbrev F277.fr:=fr6
def F277.b0:IR:=dI [] 178839606919132121838882942435387987776798555213578974562154386285537325171008139205200227077343697709889525182394447447956565636310193561942467511753638819937203298735765288435800453664943380876388793298356370296001663
def F277.res:List RV:=[.cell (.of 2) (some 2)]
def F277:Fn:={ params:=[(.of 0)],res:=F277.res,body:=F277.b0,init:=in6 }
theorem F277.ok:fnA Tryz.prog Tryz.f277 [0,1,2,3,4,13]=some F277:=by kernel_rfl
abbrev F278.fr:=fr5
def F278.b0:IR:=dI [] 155805334740462532028621870993084137337038024537470315003686499051021076628209814859847165721300776712328439
def F278.res:List RV:=[.t (.of 2)]
def F278:Fn:={ params:=[(.of 0),(.of 1)],res:=F278.res,body:=F278.b0,init:=in5 }
theorem F278.ok:fnA Tryz.prog Tryz.f278 [0,1,4,6,16]=some F278:=by kernel_rfl
abbrev F279.fr:=fr8
def F279.b0:IR:=dI [] 1747535207104205447515168402282964246119563314020987181616262115116676441742589478700149271164879887246736575
def F279.res:List RV:=[]
def F279:Fn:={ params:=[(.of 0),(.of 1),(.of 2)],res:=F279.res,body:=F279.b0,init:=in8 }
theorem F279.ok:fnA Tryz.prog Tryz.f279 [0,1,2,4,5,6,7,15]=some F279:=by kernel_rfl
abbrev F280.fr:=fr5
def F280.b0:IR:=dI [] 3528385180149077615405456957836709908357328660584664432512029722241783
def F280.res:List RV:=[.t (.of 4)]
def F280:Fn:={ params:=[(.of 0),(.of 1),(.of 2),(.of 3)],res:=F280.res,body:=F280.b0,init:=in5 }
theorem F280.ok:fnA Tryz.prog Tryz.f280 [0,1,2,3,5]=some F280:=by kernel_rfl
abbrev F282.fr:=fr7
def F282.b0:IR:=dI [] 15583780806575582864443853498427207352794528167643609216837203071
def F282.res:List RV:=[.t (.of 3)]
def F282:Fn:={ params:=[(.of 0),(.of 1)],res:=F282.res,body:=F282.b0,init:=in7 }
theorem F282.ok:fnA Tryz.prog Tryz.f282 [0,1,2,4,5,6,7]=some F282:=by kernel_rfl
abbrev F283.fr:=fr23
def F283.b0:IR:=dI [] 156545919402543704940348000937089877648623541368643949470960423636105176862899422506211775004637646031581377644287460733313099449328915432347432802276858620165863743726685088628323429996726710451211197178189670271776533437046285903276850603439624010162670469949648121921726210243900401725182407222090222797597517931719231517670219288956892780097752146235701524406370680006404645525758369969121267164680990121238902237319988566497073246361912082534995136301294521102643278476628945424841867499303910035110505700726531991206214611637080217865935746714351153168312820818605223562371963519795589673128225770354993637432678746547664721951489464912631
def F283.res:List RV:=[]
def F283:Fn:={ params:=[(.of 0),(.of 1),(.of 2),(.of 3)],res:=F283.res,body:=F283.b0,init:=in23 }
theorem F283.ok:fnA Tryz.prog Tryz.f283 [0,1,2,3,8,9,10,11,12,13,14,15,16,17,18,23,29,35,50,68,72,87,113]=some F283:=by kernel_rfl
abbrev F284.fr:=fr2
def F284.b0:IR:=dI [] 1401938638878786213719076540548089827831
def F284.res:List RV:=[.t (.of 1)]
def F284:Fn:={ params:=[(.of 0)],res:=F284.res,body:=F284.b0,init:=in2 }
theorem F284.ok:fnA Tryz.prog Tryz.f284 [0,2]=some F284:=by kernel_rfl
abbrev uj.fr:=fr5
def uj.t0:IR:=.reg (dA [] 222229791)
def uj.t1:IR:=.reg (dA [] 70606015282983076752739)
def uj.t2:IR:=.reg (dA [] 28210154603)
def uj.t3:IR:=.reg [iQo 2 (.mv aC0)]
def uj.zae (r:List RO):List RO:=dA r 1961799
def uj.r4_2:List RO:=uj.zae []
def uj.aK (r:List RO):List RO:=dA r 3084821479067
def uj.oU:List RO:=uj.aK uj.r4_2
def uj.aJ (r:List RO):List RO:=dA r 37451547368636688033975998681
def uj.aZ:List RO:=uj.aJ uj.oU
def uj.t7:IR:=.reg uj.aZ
def uj.t11:IR:=.seq uj.t0 (.seq uj.t1 (.seq (.seq uj.t2 (.cond aT4 (.seq uj.t3 .ret) .skip)) (.seq uj.t7 .ret)))
def uj.b0:IR:=uj.t11
def uj.res:List RV:=[.t (.of 2)]
def uj:Fn:={ params:=[(.of 0)],res:=uj.res,body:=uj.b0,init:=in5 }
theorem uj.ok:fnA Tryz.prog Tryz.f285 [0,1,2,4,12]=some uj:=by kernel_rfl
abbrev F286.fr:=fr3
def F286.b0:IR:=dI [] 4985176844509256606967
def F286.res:List RV:=[.t (.of 2)]
def F286:Fn:={ params:=[(.of 0),(.of 1)],res:=F286.res,body:=F286.b0,init:=in3 }
theorem F286.ok:fnA Tryz.prog Tryz.f286 [0,1,4]=some F286:=by kernel_rfl
abbrev rE.fr:=fr2
def rE.t0:IR:=.reg [iQo 1 (.mv (.c (.str [])))]
def rE.t1:IR:=.reg (dA [] 33224741609195)
def rE.t3:IR:=.seq rE.t0 (.seq rE.t1 .ret)
def rE.b0:IR:=rE.t3
def rE.res:List RV:=[.t (.of 1)]
def rE:Fn:={ params:=[(.of 0)],res:=rE.res,body:=rE.b0,init:=in2 }
theorem rE.ok:fnA Tryz.prog Tryz.f287 [0,2]=some rE:=by kernel_rfl
abbrev pz.fr:=fr4
def pz.t0:IR:=.reg (dA [] 1842279711)
def pz.t1:IR:=.reg (dA [] 57912220891)
def pz.t2:IR:=.reg (dA [] 477371689302875)
def pz.t6:IR:=.reg (dA [] 227655087)
def pz.t9:IR:=.seq pz.t0 (.seq (.seq pz.t1 (.cond aT3 (.seq pz.t2 .ret) .skip)) (.seq pz.t6 .ret))
def pz.b0:IR:=pz.t9
def pz.res:List RV:=[.cell (.of 2) (some 2)]
def pz:Fn:={ params:=[(.of 0)],res:=pz.res,body:=pz.b0,init:=in4 }
theorem pz.ok:fnA Tryz.prog Tryz.f299 [0,1,2,5]=some pz:=by kernel_rfl
abbrev F302.fr:=fr7
def F302.b0:IR:=dI [] 5411202100851516433250052702202829785220871523365596840611439532414514754040233583667125764889014992940293187232041329185704385268890935161211228466301292324300399088684228877414892485229091441546962649119717513799112966860041264677239169614190590105519
def F302.res:List RV:=[]
def F302:Fn:={ params:=[(.of 0),(.of 1),(.of 2)],res:=F302.res,body:=F302.b0,init:=in7 }
theorem F302.ok:fnA Tryz.prog Tryz.f302 [0,1,2,6,7,12,30]=some F302:=by kernel_rfl
abbrev F308.fr:=fr3
def F308.b0:IR:=dI [] 3563454677550712944695035682477570225187227154054388014115281409271
def F308.res:List RV:=[.t (.of 2)]
def F308:Fn:={ params:=[(.of 0),(.of 1)],res:=F308.res,body:=F308.b0,init:=in3 }
theorem F308.ok:fnA Tryz.prog Tryz.f308 [0,1,4]=some F308:=by kernel_rfl
abbrev F311.fr:=fr4
def F311.b0:IR:=dI [] 2418480936372893202514371314154747325896434776180692692394340854073744731099506210018506462931884000358879735
def F311.res:List RV:=[.t (.of 1)]
def F311:Fn:={ params:=[(.of 0)],res:=F311.res,body:=F311.b0,init:=in4 }
theorem F311.ok:fnA Tryz.prog Tryz.f311 [0,2,4,8]=some F311:=by kernel_rfl
abbrev yx.fr:=fr5
def yx.t0:IR:=.reg [iQo 1 (.mv aC0)]
def yx.t1:IR:=.reg (dA [] 13712258935)
def yx.t2:IR:=.reg (dA [] 1442671593195)
def yx.t3:IR:=.reg [iQo 1 (.mv aC32)]
def yx.t7:IR:=.reg (dA [] 61784389495)
def yx.t8:IR:=.reg (dA [] 2881665992427)
def yx.t9:IR:=.reg (dA [] 2079475179)
def yx.t13:IR:=.reg (dA [] 44604422007)
def yx.t14:IR:=.reg (dA [] 2885960959723)
def yx.t15:IR:=.reg (dA [] 2031502827)
def yx.t19:IR:=.reg (dA [] 1152037449163967384377251)
def yx.t20:IR:=.seq yx.t19 .ret
def yx.t21:IR:=.seq (.seq yx.t13 (.cond aT4 (.seq yx.t14 yx.t15) .skip)) yx.t20
def yx.t22:IR:=.seq (.seq yx.t7 (.cond aT3 (.seq yx.t8 yx.t9) .skip)) yx.t21
def yx.t24:IR:=.seq yx.t0 (.seq (.seq yx.t1 (.cond aT2 (.seq yx.t2 yx.t3) .skip)) yx.t22)
def yx.b0:IR:=yx.t24
def yx.res:List RV:=[.t (.of 1)]
def yx:Fn:={ params:=[(.of 0)],res:=yx.res,body:=yx.b0,init:=in5 }
theorem yx.ok:fnA Tryz.prog Tryz.f312 [0,2,4,8,14]=some yx:=by kernel_rfl
abbrev F313.fr:=fr4
def F313.b0:IR:=dI [] 96957896475501001018866606785372452233968084215
def F313.res:List RV:=[.t (.of 2)]
def F313:Fn:={ params:=[(.of 0),(.of 1)],res:=F313.res,body:=F313.b0,init:=in4 }
theorem F313.ok:fnA Tryz.prog Tryz.f313 [0,1,4,7]=some F313:=by kernel_rfl
abbrev yh.fr:=fr11
def yh.t0:IR:=.reg [iQo 2 (.mv (.c (.str [])))]
def yh.t1:IR:=.reg (dA [] 1864857335)
def yh.t2:IR:=.reg (dA [] 759793514082345335098090418539977)
def yh.t3:IR:=.reg (dA [] 15786303211)
def yh.t7:IR:=.reg (dA [] 1965517)
def yh.t8:IR:=.reg (dA [] 98150123)
def yh.t9:IR:=.reg (dA [] 226195319)
def yh.t10:IR:=.reg (dA [] 197019627)
def yh.t13:IR:=.reg (dA [] 409530251243)
def yh.t14:IR:=.reg (dA [] 19113736776559491823768529)
def yh.t15:IR:=.reg (dA [] 452982647)
def yh.t16:IR:=.reg (dA [] 8494589374001959)
def yh.t17:IR:=.reg (dA [] 259879393211377849297)
def yh.t22:IR:=.reg (dA [] 1039517227953854157777)
def yh.t26:IR:=.seq yh.t13 (.seq yh.t14 (.seq (.seq yh.t15 (.cond aT10 (.seq yh.t16 (.seq yh.t17 .ret)) .skip)) (.seq yh.t22 .ret)))
def yh.t29:IR:=.seq yh.t7 (.seq yh.t8 (.seq (.seq yh.t9 (.cond aT9 yh.t10 .skip)) yh.t26))
def yh.t38:IR:=.seq yh.t0 (.seq (.seq yh.t1 (.cond aT7 (.seq (.seq yh.t2 (.cond aT8 (.seq yh.t3 .ret) .skip)) yh.t29) .skip)) (.seq (.reg (dA [] 141292889952589575963595642556115873750369)) (.seq (.reg (dA [] 15031)) .ret)))
def yh.b0:IR:=yh.t38
def yh.res:List RV:=[.t (.of 2)]
def yh:Fn:={ params:=[(.of 0),(.of 1)],res:=yh.res,body:=yh.b0,init:=in11 }
theorem yh.ok:fnA Tryz.prog Tryz.f314 [0,1,4,5,6,7,9,11,17,23,34]=some yh:=by kernel_rfl
abbrev mh.fr:=fr3
def mh.t0:IR:=.reg [iQo 1 (.mv (.c (.str [])))]
def mh.t1:IR:=.reg (dA [] 233731959)
def mh.t2:IR:=.reg (dA [] 9106105694876528081)
def mh.t6:IR:=.reg (dA [] 157031268890214306094699518883)
def mh.t9:IR:=.seq mh.t0 (.seq (.seq mh.t1 (.cond aT2 (.seq mh.t2 .ret) .skip)) (.seq mh.t6 .ret))
def mh.b0:IR:=mh.t9
def mh.res:List RV:=[.t (.of 1)]
def mh:Fn:={ params:=[(.of 0)],res:=mh.res,body:=mh.b0,init:=in3 }
theorem mh.ok:fnA Tryz.prog Tryz.f315 [0,2,4]=some mh:=by kernel_rfl
abbrev fI.fr:=fr3
def fI.t0:IR:=.reg [iQo 1 (.mv aC0)]
def fI.t1:IR:=.reg (dA [] 33113971725155795)
def fI.t2:IR:=.reg (dA [] 1285947123109154933714343343143371139)
def fI.t5:IR:=.seq fI.t0 (.seq fI.t1 (.seq fI.t2 .ret))
def fI.b0:IR:=fI.t5
def fI.res:List RV:=[.t (.of 1)]
def fI:Fn:={ params:=[(.of 0)],res:=fI.res,body:=fI.b0,init:=in3 }
theorem fI.ok:fnA Tryz.prog Tryz.f316 [0,2,3]=some fI:=by kernel_rfl
end
end Go.Ev
