import Derived.Test.YtfgpjkchdelphaaGreatDoorIrA
import Derived.Test.YtfgpjkchdelphaaGreatDoorEvC
import Derived.Test.YtfgpjkchdelphaaGreatDoorProg
import Derived.KernelRfl
set_option linter.unusedSimpArgs false
set_option linter.unusedVariables false
namespace Go.Ev
open Go Go.Proofs
set_option maxRecDepth 100000
noncomputable section

abbrev jb.fr:=fr6
def jb.t0:IR:=.reg (dA [] 128205)
def jb.t1:IR:=.reg (dA [] 1131792716110593486005974844307903737772)
def jb.t2:IR:=.reg [iQo 4 (.mv aT2)]
def jb.t3:IR:=.reg (dA [] 3021032945)
def jb.t6:IR:=.reg [iQo 3 (.mv (.c .zb))]
def jb.t7:IR:=.reg (dA [] 16410234568177)
def jb.t10:IR:=.reg (dA [] 34831725968173423187046381901878072671979904)
def jb.t11:IR:=.reg (dA [] 6670455350173972031444)
def jb.t14:IR:=.seq (.seq jb.t7 (.cond aT5 .skip (.exit 0))) (.block 1 (.seq jb.t10 jb.t11))
def jb.t15:IR:=.loop jb.t14
def jb.t17:IR:=.reg (dA [] 5237552661549725630043522157209369864388)
def jb.t20:IR:=.seq jb.t6 (.seq (.block 0 jb.t15) (.seq jb.t17 .ret))
def jb.t23:IR:=.seq jb.t0 (.seq jb.t1 (.seq (.seq jb.t2 (.cond aT4 jb.t3 .skip)) jb.t20))
def jb.b0:IR:=jb.t23
def jb.res:List RV:=[.cell (.of 1) (some 2)]
def jb:Fn:={ params:=[(.of 0)],res:=jb.res,body:=jb.b0,init:=in6 }
theorem jb.ok:fnA Tryz.prog Tryz.f205 [0,2,3,4,13,18]=some jb:=by kernel_rfl
abbrev jq.fr:=fr5
def jq.t0:IR:=.reg [iQo 1 (.mv aC0)]
def jq.t1:IR:=.reg [iQo 2 (.mv aC0)]
def jq.t2:IR:=.reg (dA [] 7654499808360)
def jq.t5:IR:=.reg (dA [] 114368594884047848)
def jq.t6:IR:=.reg (dA [] 18714)
def jq.t11:IR:=.reg (dA [] 3042865)
def jq.t13:IR:=.seq (.seq jq.t2 (.cond aT3 .skip (.exit 0))) (.seq (.block 1 (.seq jq.t5 (.cond aT4 (.seq jq.t6 .ret) .skip))) jq.t11)
def jq.t14:IR:=.loop jq.t13
def jq.t17:IR:=.reg (dA [] 37993969)
def jq.t20:IR:=.seq jq.t0 (.seq (.seq jq.t1 (.block 0 jq.t14)) (.seq jq.t17 .ret))
def jq.b0:IR:=jq.t20
def jq.res:List RV:=[.t (.of 1)]
def jq:Fn:={ params:=[(.of 0)],res:=jq.res,body:=jq.b0,init:=in5 }
theorem jq.ok:fnA Tryz.prog Tryz.f206 [0,2,3,7,13]=some jq:=by kernel_rfl
abbrev uz.fr:=fr5
def uz.t0:IR:=.reg [iQo 2 (.mv (.c .zb))]
def uz.t1:IR:=.reg (dA [] 12021331185)
def uz.t4:IR:=.reg (dA [] 255533081465355148847044)
def uz.t5:IR:=.reg (dA [] 38903296488)
def uz.t8:IR:=.seq (.seq uz.t1 (.cond aT4 .skip (.exit 0))) (.block 1 (.seq uz.t4 uz.t5))
def uz.t9:IR:=.loop uz.t8
def uz.t11:IR:=.reg (dA [] 250)
def uz.t14:IR:=.seq uz.t0 (.seq (.block 0 uz.t9) (.seq uz.t11 .ret))
def uz.b0:IR:=uz.t14
def uz.res:List RV:=[.t (.of 2)]
def uz:Fn:={ params:=[(.of 0),(.of 1)],res:=uz.res,body:=uz.b0,init:=in5 }
theorem uz.ok:fnA Tryz.prog Tryz.f208 [0,1,4,6,9]=some uz:=by kernel_rfl
abbrev uh.fr:=fr5
def uh.t0:IR:=.reg [iQo 1 (.mv aC0)]
def uh.t1:IR:=.reg [iQo 2 (.mv aC0)]
def uh.t2:IR:=.reg [iQo 3 (.mv aC0)]
def uh.t3:IR:=.reg (dA [] 7645909873256)
def uh.t6:IR:=.reg (dA [] 245599068504679230651555998429612)
def uh.t8:IR:=.reg (dA [] 103705905)
def uh.t10:IR:=.seq (.seq uh.t3 (.cond aT4 .skip (.exit 0))) (.seq (.block 1 uh.t6) uh.t8)
def uh.t11:IR:=.loop uh.t10
def uh.t14:IR:=.reg (dA [] 18714)
def uh.t18:IR:=.seq uh.t0 (.seq uh.t1 (.seq (.seq uh.t2 (.block 0 uh.t11)) (.seq uh.t14 .ret)))
def uh.b0:IR:=uh.t18
def uh.res:List RV:=[.t (.of 1)]
def uh:Fn:={ params:=[(.of 0)],res:=uh.res,body:=uh.b0,init:=in5 }
theorem uh.ok:fnA Tryz.prog Tryz.f209 [0,2,3,4,8]=some uh:=by kernel_rfl
abbrev qp.fr:=fr4
def qp.t0:IR:=.reg [iQo 2 (.mv aC0)]
def qp.t1:IR:=.reg (dA [] 46974586)
def qp.t4:IR:=dI [] 30404639767174361512473914
def qp.t6:IR:=.seq (.seq qp.t1 (.cond aT3 .skip (.exit 0))) (.block 1 qp.t4)
def qp.t7:IR:=.loop qp.t6
def qp.t9:IR:=.reg (dA [] 250)
def qp.t12:IR:=.seq qp.t0 (.seq (.block 0 qp.t7) (.seq qp.t9 .ret))
def qp.b0:IR:=qp.t12
def qp.res:List RV:=[.t (.of 2)]
def qp:Fn:={ params:=[(.of 0),(.of 1)],res:=qp.res,body:=qp.b0,init:=in4 }
theorem qp.ok:fnA Tryz.prog Tryz.f210 [0,1,4,6]=some qp:=by kernel_rfl
abbrev jc.fr:=fr5
def jc.t0:IR:=.reg [iQo 2 (.mv (.c (.str [])))]
def jc.t1:IR:=.reg [iQo 3 (.mv (.c (.str [])))]
def jc.zux (r:List RO):List RO:=dA r 2033662458411060178154597589418580031428
def jc.r2_0:List RO:=jc.zux []
def jc.t2:IR:=.reg jc.r2_0
def jc.t3:IR:=.cond aT4 .skip (.exit 0)
def jc.t5:IR:=.reg (dA [] 257690644928383056771548211591843245996)
def jc.t6:IR:=.reg (dA [] 194074062321)
def jc.t8:IR:=.block 1 (.seq jc.t5 jc.t6)
def jc.t9:IR:=.seq (.seq jc.t2 jc.t3) jc.t8
def jc.t10:IR:=.loop jc.t9
def jc.t12:IR:=.reg (dA [] 154)
def jc.t13:IR:=.seq jc.t12 .ret
def jc.t16:IR:=.seq jc.t0 (.seq jc.t1 (.seq (.block 0 jc.t10) jc.t13))
def jc.b0:IR:=jc.t16
def jc.res:List RV:=[.t (.of 2)]
def jc:Fn:={ params:=[(.of 0),(.of 1)],res:=jc.res,body:=jc.b0,init:=in5 }
theorem jc.ok:fnA Tryz.prog Tryz.f211 [0,1,4,5,13]=some jc:=by kernel_rfl
abbrev nR.fr:=fr3
def nR.t0:IR:=.reg (dA [] 4268096206)
def nR.t1:IR:=.reg (dA [] 684577150294617216247610032)
def nR.t3:IR:=.seq nR.t0 (.seq nR.t1 .ret)
def nR.b0:IR:=nR.t3
def nR.res:List RV:=[.cell (.of 2) (some 2)]
def nR:Fn:={ params:=[(.of 0)],res:=nR.res,body:=nR.b0,init:=in3 }
theorem nR.ok:fnA Tryz.prog Tryz.f212 [0,1,2]=some nR:=by kernel_rfl
abbrev qh.fr:=fr29
def qh.t0:IR:=.reg (dA [] 16092994)
def qh.t1:IR:=.reg (dA [] 3300089840566858728)
def qh.t2:IR:=.reg (dA [] 26165745)
def qh.t6:IR:=.reg (dA [] 794422605041)
def qh.t7:IR:=.reg (dA [] 2234518607623162648603965771648)
def qh.t8:IR:=.reg (dA [] 29331119632514421743828)
def qh.t109:IR:=.seq qh.t0 (.seq (.seq qh.t1 (.cond aT21 (.seq qh.t2 .ret) .skip)) (.seq (.seq qh.t6 (.cond aT22 (.seq qh.t7 (.seq qh.t8 .ret)) .skip)) (.seq (.reg (dA [] 848209128878971380333186902855501696)) (.seq (.reg (dA [] 246786333258216)) (.seq (.reg (dA [] 15853745)) (.seq (.reg (dA [] 426567788355826209814116404)) (.seq (.block 0 (.loop (.seq (.seq (.reg (dA [] 514753376733411364564)) (.cond aT23 .skip (.exit 0))) (.block 1 (.reg (dA [] 101570775687225681768)))))) (.seq (.reg (dA [] 1780830785776613543636)) (.seq (.seq (.reg (dA [] 8961226934101954260)) (.block 2 (.loop (.seq (.seq (.reg (dA [] 12104382458)) (.cond aT24 .skip (.exit 2))) (.seq (.block 3 (.seq (.reg (dA [] 304617153818186321628)) (iSr [(iQo 13 (.mv aC0))] (.seq (iSr [(iQo 14 (.mv aC0))] (.block 4 (.loop (.seq (.seq (.reg (dA [] 2177850251121)) (.cond aT25 .skip (.exit 4))) (.seq (.block 5 (.seq (.reg (dA [] 624187137908806501704521899436)) (.seq (.reg (dA [] 1600309826218441629932486269259423104)) (.seq (.reg (dA [] 2361072680945)) (.seq (.seq (.reg (dA [] 24627437050)) (.cond aT26 (.seq (.reg (dA [] 1325925252081)) (.reg (dA [] 9175490545))) .skip)) (.reg (dA [] 533227184357601343860084432))))))) (.reg (dA [] 60715095921))))))) (.seq (.reg ((iSm 9)::((iSm 11)::((iSm 8)::((.s (.bin .add .int aS1 aS0))::((iSm 9)::((iSm 11)::((iSm 8)::((.s (.bin .add .int aS1 aS0))::((.s (.aB 1 aS3 aS0))::((.s (.load aS0))::((iSm 13)::((.s (.bin .sub .int aS1 aS0))::((.s (.aB 1 aS11 aS8))::((.w .none none (.store 1 aS0 aS1))::[]))))))))))))))) (.seq (.seq (.reg (dA [] 27803587301656572119191248)) (.cond aT27 (.seq (.reg (dA [] 17765329841)) (iSr [(iQo 17 (.mv aC0))] (.seq (iSr [(iQo 18 (.mv aC0))] (.block 6 (.loop (.seq (.seq (.reg (dA [] 8589464534001)) (.cond aT28 .skip (.exit 6))) (.seq (.block 7 (.seq (.nk [] (((iSm 9)::((iSm 18)::((iSm 11)::((.s (.bin .add .int aS1 aS0))::((.s (.aB 1 aS3 aS0))::((.s (.load aS0))::((iSm 7)::((iSm 18)::((.s (.aB 1 aS1 aS0))::((.s (.load aS0))::((.s (.bin .add .int aS4 aS0))::((iSm 17)::((.s (.bin .add .int aS1 aS0))::((iQm 19 0)::[])))))))))))))).map λo=>(o,0,[]))) (.seq (.reg (dA [] 4473170046186185854495370122333892)) (.reg (dA [] 4010340091761))))) (.reg (dA [] 69890604017))))))) (.reg ((iSm 9)::((iSm 11)::((iSm 8)::((.s (.bin .add .int aS1 aS0))::((iSm 9)::((iSm 11)::((iSm 8)::((.s (.bin .add .int aS1 aS0))::((.s (.aB 1 aS3 aS0))::((.s (.load aS0))::((iSm 17)::((.s (.bin .add .int aS1 aS0))::((.s (.aB 1 aS11 aS8))::((.w .none none (.store 1 aS0 aS1))::[])))))))))))))))))) .skip)) (.reg (dA [] 7945717077573078236)))))))) (.reg (dA [] 16691589105))))))) (.seq (.nk [] [((iSm 9),0,[]),((iSm 8),0,[]),((.s (.slice 1 aS1 none (some aS0) none)),0,[]),((iSm 6),1,[]),((.s (.aB 1 aS0 aC0)),1,[]),((.s (.load aS0)),1,[]),((iCa 269 [aS3]),0,[]),((iCa 268 [aS0,aS1]),0,[]),((.s (.mv aS0)),0,[]),((.s (.ext 0 aS0)),0,[]),((.s (.ext 1 aS1)),0,[]),((iQm 20 1),0,[]),((.s (.mv aS0)),0,[])]) (.seq (.reg (dA [] 219554851455880412)) .ret)))))))))))
def qh.b0:IR:=qh.t109
def qh.res:List RV:=[.t (.of 2),.t (.of 3)]
def qh:Fn:={ params:=[(.of 0),(.of 1)],res:=qh.res,body:=qh.b0,init:=in29 }
theorem qh.ok:fnA Tryz.prog Tryz.f213 [0,1,4,5,6,7,8,9,10,11,12,13,14,15,16,17,18,19,20,21,22,27,31,68,83,92,115,145,150]=some qh:=by kernel_rfl
abbrev fH.fr:=fr3
def fH.t0:IR:=.reg (dA [] 130253)
def fH.t1:IR:=.reg (dA [] 39025630449)
def fH.t2:IR:=.reg (dA [] 1541541913775714249256475864857309293924268)
def fH.t5:IR:=.seq fH.t0 (.seq fH.t1 (.seq fH.t2 .ret))
def fH.b0:IR:=fH.t5
def fH.res:List RV:=[.cell (.of 2) (some 2)]
def fH:Fn:={ params:=[(.of 0),(.of 1)],res:=fH.res,body:=fH.b0,init:=in3 }
theorem fH.ok:fnA Tryz.prog Tryz.f214 [0,1,4]=some fH:=by kernel_rfl
abbrev yh.fr:=fr9
def yh.t0:IR:=.reg [iQo 2 (.mv aC0)]
def yh.t1:IR:=.reg (dA [] 482165728204764)
def yh.t2:IR:=.reg (dA [] 490137187506140)
def yh.t3:IR:=.reg [iQo 2 (.mv (.c (I (-1))))]
def yh.t7:IR:=.reg [iQo 2 (.mv aC1)]
def yh.t12:IR:=.reg (dA [] 53094509544)
def yh.t13:IR:=.reg (dA [] 94455450)
def yh.t16:IR:=dI [] 8141445176879843559106461349889436474
def yh.t17:IR:=.reg [iQo 2 (.mv (.c (I (-1))))]
def yh.t21:IR:=dI [] 32553718459207859811437004048261442362
def yh.t22:IR:=.reg [iQo 2 (.mv aC1)]
def yh.t28:IR:=.reg (dA [] 207400241)
def yh.t30:IR:=.seq (.seq yh.t13 (.cond aT6 .skip (.exit 0))) (.seq (.block 1 (.seq (.seq yh.t16 (.cond aT7 (.seq yh.t17 .ret) .skip)) (.seq yh.t21 (.cond aT8 (.seq yh.t22 .ret) .skip)))) yh.t28)
def yh.t31:IR:=.loop yh.t30
def yh.t34:IR:=.reg [iQo 2 (.mv aC0)]
def yh.t38:IR:=.seq yh.t0 (.seq (.seq yh.t1 (.cond aT4 (.seq (.seq yh.t2 (.cond aT5 (.seq yh.t3 .ret) .skip)) (.seq yh.t7 .ret)) .skip)) (.seq (.seq yh.t12 (.block 0 yh.t31)) (.seq yh.t34 .ret)))
def yh.b0:IR:=yh.t38
def yh.res:List RV:=[.t (.of 2)]
def yh:Fn:={ params:=[(.of 0),(.of 1)],res:=yh.res,body:=yh.b0,init:=in9 }
theorem yh.ok:fnA Tryz.prog Tryz.f216 [0,1,4,5,10,15,20,31,40]=some yh:=by kernel_rfl
abbrev dm.fr:=fr9
def dm.b3:IR:=dI [] 44222731551106174450502658538888233070025924197008390208631
def dm.b2:IR:=(.loop dm.b3)
def dm.g1 (X2:IR):IR:=(.block 0 X2)
def dm.b1:IR:=dm.g1 dm.b2
def dm.b8:IR:=dI [] 393835
def dm.b0:IR:=dI [dm.b1,dm.b8] 499994455227032374664877591
def dm.res:List RV:=[.t (.of 2)]
def dm:Fn:={ params:=[(.of 0),(.of 1)],res:=dm.res,body:=dm.b0,init:=in9 }
theorem dm.ok:fnA Tryz.prog Tryz.f219 [0,1,4,5,7,8,9,10,11]=some dm:=by kernel_rfl
abbrev F220.fr:=fr3
def F220.b0:IR:=dI [] 3632996164105525850008379
def F220.res:List RV:=[.t (.of 2)]
def F220:Fn:={ params:=[(.of 0)],res:=F220.res,body:=F220.b0,init:=in3 }
theorem F220.ok:fnA Tryz.prog Tryz.f220 [0,1,2]=some F220:=by kernel_rfl
abbrev F221.fr:=fr3
def F221.b0:IR:=dI [] 58264452206891058640448315
def F221.res:List RV:=[.t (.of 2)]
def F221:Fn:={ params:=[(.of 0)],res:=F221.res,body:=F221.b0,init:=in3 }
theorem F221.ok:fnA Tryz.prog Tryz.f221 [0,1,2]=some F221:=by kernel_rfl
abbrev F222.fr:=fr3
def F222.b0:IR:=dI [] 29046875629471384350485307
def F222.res:List RV:=[.t (.of 2)]
def F222:Fn:={ params:=[(.of 0)],res:=F222.res,body:=F222.b0,init:=in3 }
theorem F222.ok:fnA Tryz.prog Tryz.f222 [0,1,2]=some F222:=by kernel_rfl
abbrev F223.fr:=fr3
def F223.b0:IR:=dI [] 58046633052868696254966587
def F223.res:List RV:=[.t (.of 2)]
def F223:Fn:={ params:=[(.of 0)],res:=F223.res,body:=F223.b0,init:=in3 }
theorem F223.ok:fnA Tryz.prog Tryz.f223 [0,1,2]=some F223:=by kernel_rfl
abbrev F224.fr:=fr3
def F224.b0:IR:=dI [] 42587871034604391959278467701476257139871872514434634684393810909804882747
def F224.res:List RV:=[.t (.of 2)]
def F224:Fn:={ params:=[(.of 0)],res:=F224.res,body:=F224.b0,init:=in3 }
theorem F224.ok:fnA Tryz.prog Tryz.f224 [0,1,2]=some F224:=by kernel_rfl
abbrev F225.fr:=fr6
def F225.b0:IR:=dI [] 3052350727369650871433687549169417528758531187235119671200065129636709163277037640096860287761550116186604929670032132938968000912820227040860800641424188782194780179262366804795
def F225.res:List RV:=[.t (.of 2)]
def F225:Fn:={ params:=[(.of 0)],res:=F225.res,body:=F225.b0,init:=in6 }
theorem F225.ok:fnA Tryz.prog Tryz.f225 [0,1,2,3,4,13]=some F225:=by kernel_rfl
abbrev F226.fr:=fr6
def F226.b0:IR:=dI [] 15843902706917999495251249952095798207451807024197968158408575141702924740754434743898987796216321942254775099
def F226.res:List RV:=[.t (.of 2)]
def F226:Fn:={ params:=[(.of 0)],res:=F226.res,body:=F226.b0,init:=in6 }
theorem F226.ok:fnA Tryz.prog Tryz.f226 [0,1,2,5,8,13]=some F226:=by kernel_rfl
abbrev F227.fr:=fr3
def F227.b0:IR:=dI [] 4403492487255403010739600492750000725665369287483
def F227.res:List RV:=[.t (.of 2)]
def F227:Fn:={ params:=[(.of 0)],res:=F227.res,body:=F227.b0,init:=in3 }
theorem F227.ok:fnA Tryz.prog Tryz.f227 [0,1,2]=some F227:=by kernel_rfl
abbrev F228.fr:=fr8
def F228.b0:IR:=dI [] 322180055121240908523337358940904027092140821003676586832181403860946602766267181339006911160142125504807412641936202929764400282673326628480543970818875
def F228.res:List RV:=[.cell (.of 3) (some 2)]
def F228:Fn:={ params:=[(.of 0),(.of 1)],res:=F228.res,body:=F228.b0,init:=in8 }
theorem F228.ok:fnA Tryz.prog Tryz.f228 [0,1,2,4,5,8,13,18]=some F228:=by kernel_rfl
abbrev F229.fr:=fr8
def F229.b0:IR:=dI [] 4899101043558084137238174758854100673569134986235896057491070086618631263863354157859094535548993200001136836960407083758193813301017418574116943463
def F229.res:List RV:=[.t (.of 4)]
def F229:Fn:={ params:=[(.of 0),(.of 1)],res:=F229.res,body:=F229.b0,init:=in8 }
theorem F229.ok:fnA Tryz.prog Tryz.f229 [0,1,2,3,4,12,13,19]=some F229:=by kernel_rfl
abbrev F234.fr:=fr8
def F234.b0:IR:=dI [] 13045109720676630183996988982854334060688124604337147345598802453258445149655397999531543
def F234.res:List RV:=[.t (.of 2)]
def F234:Fn:={ params:=[(.of 0),(.of 1)],res:=F234.res,body:=F234.b0,init:=in8 }
theorem F234.ok:fnA Tryz.prog Tryz.f234 [0,1,4,5,7,8,9,16]=some F234:=by kernel_rfl
abbrev F235.fr:=fr15
def F235.b0:IR:=dI [] 1923319555025626832368432271928927491087977310744946309827667091920583782400998752632198997178872772291540314729662000220395026245024922830926783948633646542193837732891018686248875649268154985625808023
def F235.res:List RV:=[.t (.of 1)]
def F235:Fn:={ params:=[(.of 0)],res:=F235.res,body:=F235.b0,init:=in15 }
theorem F235.ok:fnA Tryz.prog Tryz.f235 [0,2,3,5,6,8,9,10,11,12,20,25,26,27,28]=some F235:=by kernel_rfl
abbrev F236.fr:=fr5
def F236.b0:IR:=dI [] 994594530228272102085383087453799
def F236.res:List RV:=[.t (.of 4)]
def F236:Fn:={ params:=[(.of 0),(.of 1)],res:=F236.res,body:=F236.b0,init:=in5 }
theorem F236.ok:fnA Tryz.prog Tryz.f236 [0,1,2,3,4]=some F236:=by kernel_rfl
abbrev F237.fr:=fr8
def F237.b0:IR:=dI [] 1889798514445095087851528440040781532707075794892044920530469901571348313168914070572178459327495119279219133591
def F237.res:List RV:=[.t (.of 1)]
def F237:Fn:={ params:=[(.of 0)],res:=F237.res,body:=F237.b0,init:=in8 }
theorem F237.ok:fnA Tryz.prog Tryz.f237 [0,2,3,5,6,7,8,9]=some F237:=by kernel_rfl
abbrev F238.fr:=fr4
def F238.b0:IR:=dI [] 3741126451166233670299031
def F238.res:List RV:=[.t (.of 3)]
def F238:Fn:={ params:=[(.of 0),(.of 1),(.of 2)],res:=F238.res,body:=F238.b0,init:=in4 }
theorem F238.ok:fnA Tryz.prog Tryz.f238 [0,1,2,4]=some F238:=by kernel_rfl
abbrev F239.fr:=fr4
def F239.b0:IR:=dI [] 3741126803704291856592279
def F239.res:List RV:=[.t (.of 3)]
def F239:Fn:={ params:=[(.of 0),(.of 1),(.of 2)],res:=F239.res,body:=F239.b0,init:=in4 }
theorem F239.ok:fnA Tryz.prog Tryz.f239 [0,1,2,4]=some F239:=by kernel_rfl
abbrev F242.fr:=fr2
def F242.b0:IR:=dI [] 57951655203643976855
def F242.res:List RV:=[.t (.of 1)]
def F242:Fn:={ params:=[(.of 0)],res:=F242.res,body:=F242.b0,init:=in2 }
theorem F242.ok:fnA Tryz.prog Tryz.f242 [0,2]=some F242:=by kernel_rfl
abbrev F243.fr:=fr2
def F243.b0:IR:=dI [] 36356311591905224320712566940901824455
def F243.res:List RV:=[]
def F243:Fn:={ params:=[(.of 0)],res:=F243.res,body:=F243.b0,init:=in2 }
theorem F243.ok:fnA Tryz.prog Tryz.f243 [0,2]=some F243:=by kernel_rfl
abbrev F244.fr:=fr8
def F244.b0:IR:=dI [] 100261177602080866235944084648462693148729503824777636260304564411895316263
def F244.res:List RV:=[]
def F244:Fn:={ params:=[(.of 0),(.of 1)],res:=F244.res,body:=F244.b0,init:=in8 }
theorem F244.ok:fnA Tryz.prog Tryz.f244 [0,1,4,5,6,7,8,14]=some F244:=by kernel_rfl
abbrev vo.fr:=fr8
def vo.b3:IR:=dI [] 91187009822375470829159850855832888956520211240209580150477943
def vo.b2:IR:=(.loop vo.b3)
def vo.g1 (X2:IR):IR:=(.block 0 X2)
def vo.b1:IR:=vo.g1 vo.b2
def vo.b8:IR:=dI [] 3438103
def vo.b0:IR:=dI [vo.b1,vo.b8] 14900964377968465431
def vo.res:List RV:=[.t (.of 2)]
def vo:Fn:={ params:=[(.of 0),(.of 1)],res:=vo.res,body:=vo.b0,init:=in8 }
theorem vo.ok:fnA Tryz.prog Tryz.f245 [0,1,4,5,7,8,9,16]=some vo:=by kernel_rfl
abbrev kg.fr:=fr3
def kg.t0:IR:=.reg (dA [] 222427854)
def kg.zf0 (r:List RO):List RO:=dA r 4115142212527440960454305528
def kg.r1_3:List RO:=kg.zf0 []
def kg.zfz (r:List RO):List RO:=dA r 307981366973
def kg.r1_2:List RO:=kg.zfz kg.r1_3
def kg.sM (r:List RO):List RO:=dA r 12979967580474169687271096
def kg.aH:List RO:=kg.sM kg.r1_2
def kg.sK (r:List RO):List RO:=dA r 11936702134
def kg.tJ:List RO:=kg.sK kg.aH
def kg.t1:IR:=.reg kg.tJ
def kg.t3:IR:=.seq kg.t0 (.seq kg.t1 .ret)
def kg.b0:IR:=kg.t3
def kg.res:List RV:=[.t (.of 2)]
def kg:Fn:={ params:=[(.of 0)],res:=kg.res,body:=kg.b0,init:=in3 }
theorem kg.ok:fnA Tryz.prog Tryz.f246 [0,1,2]=some kg:=by kernel_rfl
abbrev ji.fr:=fr8
def ji.t0:IR:=.reg [iQo 2 (.mv aC0)]
def ji.t1:IR:=.reg (dA [] 1535436273)
def ji.t2:IR:=.reg (dA [] 3929373)
def ji.t4:IR:=.reg (dA [] 13178)
def ji.t5:IR:=.reg (dA [] 4502535057804878804)
def ji.t6:IR:=.reg (dA [] 154)
def ji.t12:IR:=.reg (dA [] 29751150)
def ji.t15:IR:=.seq ji.t2 (.seq (.cond aT6 .skip (.exit 0)) (.seq (.block 1 (.seq ji.t4 (.seq ji.t5 (.cond aT7 (.seq ji.t6 .ret) .skip)))) ji.t12))
def ji.t16:IR:=.loop ji.t15
def ji.t19:IR:=.reg [iQo 2 (.mv (.c (I (-1))))]
def ji.t22:IR:=.seq ji.t0 (.seq (.seq ji.t1 (.block 0 ji.t16)) (.seq ji.t19 .ret))
def ji.b0:IR:=ji.t22
def ji.res:List RV:=[.t (.of 2)]
def ji:Fn:={ params:=[(.of 0),(.of 1)],res:=ji.res,body:=ji.b0,init:=in8 }
theorem ji.ok:fnA Tryz.prog Tryz.f247 [0,1,4,5,7,8,9,16]=some ji:=by kernel_rfl
abbrev ru.fr:=fr2
def ru.t0:IR:=.reg [iQo 1 (.mv (.c (.str [])))]
def ru.t1:IR:=.reg (dA [] 39027990001)
def ru.t3:IR:=.seq ru.t0 (.seq ru.t1 .ret)
def ru.b0:IR:=ru.t3
def ru.res:List RV:=[.t (.of 1)]
def ru:Fn:={ params:=[(.of 0)],res:=ru.res,body:=ru.b0,init:=in2 }
theorem ru.ok:fnA Tryz.prog Tryz.f248 [0,2]=some ru:=by kernel_rfl
abbrev wm.fr:=fr6
def wm.t0:IR:=.reg (dA [] 1054859326873)
def wm.t1:IR:=.reg (dA [] 37290027990872)
def wm.t4:IR:=.reg (dA [] 974008589656)
def wm.t5:IR:=.reg (dA [] 8047938)
def wm.t12:IR:=dI [] 35395918626727517273708910144199264271339445050
def wm.t15:IR:=.seq wm.t0 (.seq (.block 0 (.seq wm.t1 (.cond aT4 (.seq (.nk [] [(.s (.zaj 0 aT1),0,[]),(.s (.load aS0),0,[]),(.s (.bin .lss .int aS0 aC0),0,[]),(.s (.zaj 1 aT1),0,[]),(.s (.load aS0),0,[]),(iQm 2 2,0,[]),(iQm 3 0,0,[])]) .ret) (.seq wm.t4 (.cond aT5 (.seq wm.t5 .ret) .skip))))) (.seq wm.t12 .ret))
def wm.b0:IR:=wm.t15
def wm.res:List RV:=[.t (.of 2),.t (.of 3)]
def wm:Fn:={ params:=[(.of 0)],res:=wm.res,body:=wm.b0,init:=in6 }
theorem wm.ok:fnA Tryz.prog Tryz.f249 [0,1,2,3,4,13]=some wm:=by kernel_rfl
abbrev qa.fr:=fr4
def qa.t0:IR:=.reg [iQo 1 (.mv aC0)]
def qa.t1:IR:=.reg (dA [] 8473413370)
def qa.t2:IR:=.reg [iQo 1 (.mv aC0)]
def qa.t6:IR:=.reg (dA [] 4526982804752199707187261135548555655108)
def qa.t7:IR:=.reg [iQo 1 (.mv (.c (I (-1))))]
def qa.t11:IR:=.reg [iQo 1 (.mv aC1)]
def qa.t15:IR:=.seq qa.t0 (.seq (.seq qa.t1 (.cond aT2 (.seq qa.t2 .ret) .skip)) (.seq (.seq qa.t6 (.cond aT3 (.seq qa.t7 .ret) .skip)) (.seq qa.t11 .ret)))
def qa.b0:IR:=qa.t15
def qa.res:List RV:=[.t (.of 1)]
def qa:Fn:={ params:=[(.of 0)],res:=qa.res,body:=qa.b0,init:=in4 }
theorem qa.ok:fnA Tryz.prog Tryz.f255 [0,2,4,12]=some qa:=by kernel_rfl
abbrev uj.fr:=fr5
def uj.t0:IR:=.reg [iQo 1 (.mv (.c .zb))]
def uj.t1:IR:=.reg [iQo 2 (.mv (.c .zb))]
def uj.t2:IR:=.reg [iQo 3 (.mv aC0)]
def uj.t3:IR:=.reg (dA [] 955747005032)
def uj.t6:IR:=.reg (dA [] 345524534272115180485079698675931572351360)
def uj.t8:IR:=.reg (dA [] 103705905)
def uj.t10:IR:=.seq (.seq uj.t3 (.cond aT4 .skip (.exit 0))) (.seq (.block 1 uj.t6) uj.t8)
def uj.t11:IR:=.loop uj.t10
def uj.t14:IR:=.reg (dA [] 18714)
def uj.t18:IR:=.seq uj.t0 (.seq uj.t1 (.seq (.seq uj.t2 (.block 0 uj.t11)) (.seq uj.t14 .ret)))
def uj.b0:IR:=uj.t18
def uj.res:List RV:=[.t (.of 1)]
def uj:Fn:={ params:=[(.of 0)],res:=uj.res,body:=uj.b0,init:=in5 }
theorem uj.ok:fnA Tryz.prog Tryz.f256 [0,2,3,4,8]=some uj:=by kernel_rfl
abbrev uo.fr:=fr7
def uo.t0:IR:=.reg (dA [] 432743416331673)
def uo.t1:IR:=dI [] 535871472655470559964477296464644363087162
def uo.t2:IR:=.reg (dA [] 12783151452999017)
def uo.t5:IR:=.reg (dA [] 674292661384025397831073975812753900464960)
def uo.t6:IR:=dI [] 118987369436382425046758970
def uo.t9:IR:=.seq (.seq uo.t2 (.cond aT6 .skip (.exit 0))) (.block 1 (.seq uo.t5 uo.t6))
def uo.t10:IR:=.loop uo.t9
def uo.t12:IR:=.reg (dA [] 113821366)
def uo.t16:IR:=.seq uo.t0 (.seq uo.t1 (.seq (.block 0 uo.t10) (.seq uo.t12 .ret)))
def uo.b0:IR:=uo.t16
def uo.res:List RV:=[.cell (.of 4) (some 2)]
def uo:Fn:={ params:=[(.of 0),(.of 1)],res:=uo.res,body:=uo.b0,init:=in7 }
theorem uo.ok:fnA Tryz.prog Tryz.f258 [0,1,2,3,4,6,13]=some uo:=by kernel_rfl
abbrev qw.fr:=fr7
def qw.t0:IR:=.reg (dA [] 432743416331673)
def qw.t1:IR:=.reg (dA [] 6449964477009257)
def qw.t2:IR:=dI [] 535871472655470543946209947880027547594042
def qw.t5:IR:=.reg (dA [] 583304948923513002581541060385416497883968)
def qw.t6:IR:=.reg (dA [] 227663542)
def qw.t8:IR:=.seq qw.t5 (.seq qw.t6 .ret)
def qw.t10:IR:=.seq qw.t0 (.seq (.seq qw.t1 (.cond aT6 qw.t2 .skip)) qw.t8)
def qw.b0:IR:=qw.t10
def qw.res:List RV:=[.cell (.of 4) (some 2)]
def qw:Fn:={ params:=[(.of 0),(.of 1)],res:=qw.res,body:=qw.b0,init:=in7 }
theorem qw.ok:fnA Tryz.prog Tryz.f259 [0,1,2,3,4,5,9]=some qw:=by kernel_rfl
abbrev jg.fr:=fr12
def jg.t0:IR:=.reg (dA [] 5525555522)
def jg.t1:IR:=.reg (dA [] 151377423857)
def jg.t2:IR:=.reg (dA [] 60732485105)
def jg.t3:IR:=.reg (dA [] 357535853809)
def jg.t4:IR:=.reg (dA [] 120862026993)
def jg.t5:IR:=.reg (dA [] 258140188776)
def jg.t6:IR:=.reg (dA [] 6664942940284731527977936)
def jg.t7:IR:=.reg (dA [] 1705021322161)
def jg.t8:IR:=.reg (dA [] 1067563660209)
def jg.t9:IR:=.reg (dA [] 872410152710540500)
def jg.t10:IR:=.reg (dA [] 66483629158141020994598713260)
def jg.t11:IR:=.reg (dA [] 25990853608)
def jg.t23:IR:=.seq jg.t0 (.seq jg.t1 (.seq jg.t2 (.seq jg.t3 (.seq jg.t4 (.seq jg.t5 (.seq jg.t6 (.seq jg.t7 (.seq jg.t8 (.seq jg.t9 (.seq jg.t10 (.seq jg.t11 .ret)))))))))))
def jg.b0:IR:=jg.t23
def jg.res:List RV:=[.t (.of 2),.t (.of 3)]
def jg:Fn:={ params:=[(.of 0),(.of 1)],res:=jg.res,body:=jg.b0,init:=in12 }
theorem jg.ok:fnA Tryz.prog Tryz.f263 [0,1,4,5,6,7,8,9,10,11,12,13]=some jg:=by kernel_rfl
abbrev dx.fr:=fr3
def dx.t0:IR:=.reg (dA [] 674597)
def dx.t1:IR:=.reg (dA [] 11994874)
def dx.t2:IR:=.reg (dA [] 1252915117032)
def dx.t6:IR:=.reg (dA [] 152944113)
def dx.t9:IR:=.seq dx.t0 (.seq (.seq dx.t1 (.cond aT2 (.seq dx.t2 .ret) .skip)) (.seq dx.t6 .ret))
def dx.b0:IR:=dx.t9
def dx.res:List RV:=[.t (.of 1)]
def dx:Fn:={ params:=[(.of 0)],res:=dx.res,body:=dx.b0,init:=in3 }
theorem dx.ok:fnA Tryz.prog Tryz.f264 [0,2,4]=some dx:=by kernel_rfl
abbrev jd.fr:=fr9
def jd.t0:IR:=.reg (dA [] 2985794)
def jd.t1:IR:=.reg (dA [] 35777042312168)
def jd.t2:IR:=.reg [iQo 5 (.mv aC0)]
def jd.t3:IR:=.reg (dA [] 87454247912)
def jd.t4:IR:=.reg (dA [] 377982298)
def jd.t7:IR:=.reg (dA [] 33924133692462628329847748)
def jd.t8:IR:=.reg (dA [] 4165968855458297088925904)
def jd.t9:IR:=.reg (dA [] 241581023592)
def jd.t13:IR:=.reg (dA [] 683236017)
def jd.t15:IR:=.seq (.seq jd.t4 (.cond aT8 .skip (.exit 0))) (.seq (.block 1 (.seq jd.t7 (.seq jd.t8 jd.t9))) jd.t13)
def jd.t16:IR:=.loop jd.t15
def jd.t19:IR:=.reg (dA [] 3431431245099228)
def jd.t24:IR:=.seq jd.t0 (.seq jd.t1 (.seq jd.t2 (.seq (.seq jd.t3 (.block 0 jd.t16)) (.seq jd.t19 .ret))))
def jd.b0:IR:=jd.t24
def jd.res:List RV:=[.t (.of 2),.t (.of 3)]
def jd:Fn:={ params:=[(.of 0),(.of 1)],res:=jd.res,body:=jd.b0,init:=in9 }
theorem jd.ok:fnA Tryz.prog Tryz.f268 [0,1,4,5,6,7,8,9,17]=some jd:=by kernel_rfl
abbrev gq.fr:=fr3
def gq.t0:IR:=.reg [iQo 1 (.mv (.c .zb))]
def gq.sM (r:List RO):List RO:=dA r 8476661844440237793625393583640
def gq.aH:List RO:=gq.sM []
def gq.sK (r:List RO):List RO:=dA r 3756630438642696149875073828509636
def gq.tJ:List RO:=gq.sK gq.aH
def gq.t1:IR:=.reg gq.tJ
def gq.t4:IR:=.reg (dA [] 831958948069763704788)
def gq.t6:IR:=.seq (.seq gq.t1 (.cond aT2 .skip (.exit 0))) (.block 1 gq.t4)
def gq.t7:IR:=.loop gq.t6
def gq.t9:IR:=.reg (dA [] 18682)
def gq.t12:IR:=.seq gq.t0 (.seq (.block 0 gq.t7) (.seq gq.t9 .ret))
def gq.b0:IR:=gq.t12
def gq.res:List RV:=[.t (.of 1)]
def gq:Fn:={ params:=[(.of 0)],res:=gq.res,body:=gq.b0,init:=in3 }
theorem gq.ok:fnA Tryz.prog Tryz.f269 [0,2,14]=some gq:=by kernel_rfl
abbrev F272.fr:=fr8
def F272.b0:IR:=dI [] 1677538643127346800435704223645267994778348716826003549009187848050067665136026448226839
def F272.res:List RV:=[.t (.of 2)]
def F272:Fn:={ params:=[(.of 0),(.of 1)],res:=F272.res,body:=F272.b0,init:=in8 }
theorem F272.ok:fnA Tryz.prog Tryz.f272 [0,1,4,5,6,7,8,15]=some F272:=by kernel_rfl
abbrev F273.fr:=fr3
def F273.b0:IR:=dI [] 763626224006974119051056566687709318908425575114700205130531261858985629207
def F273.res:List RV:=[.t (.of 2)]
def F273:Fn:={ params:=[(.of 0),(.of 1)],res:=F273.res,body:=F273.b0,init:=in3 }
theorem F273.ok:fnA Tryz.prog Tryz.f273 [0,1,3]=some F273:=by kernel_rfl
abbrev F274.fr:=fr4
def F274.b0:IR:=dI [] 784494143373569605315855874821367729957408807469781884344710024260319980465559
def F274.res:List RV:=[.t (.of 3)]
def F274:Fn:={ params:=[(.of 0),(.of 1),(.of 2)],res:=F274.res,body:=F274.b0,init:=in4 }
theorem F274.ok:fnA Tryz.prog Tryz.f274 [0,1,2,5]=some F274:=by kernel_rfl
abbrev F275.fr:=fr6
def F275.b0:IR:=dI [] 61820418355673777367579032252223804879132402851654033916795444279685946189980365975315255250221196494771186038794420652160490521061004084066264959275004021184430209225731430785692379455981006231
def F275.res:List RV:=[.t (.of 3)]
def F275:Fn:={ params:=[(.of 0),(.of 1),(.of 2)],res:=F275.res,body:=F275.b0,init:=in6 }
theorem F275.ok:fnA Tryz.prog Tryz.f275 [0,1,2,4,5,6]=some F275:=by kernel_rfl
abbrev F276.fr:=fr6
def F276.b0:IR:=dI [] 1321851459971384006055568335628600341276991589717581446914993029417466669843534333583526381882448200858242678832656653666214115202811510693473687
def F276.res:List RV:=[.t (.of 3)]
def F276:Fn:={ params:=[(.of 0),(.of 1),(.of 2)],res:=F276.res,body:=F276.b0,init:=in6 }
theorem F276.ok:fnA Tryz.prog Tryz.f276 [0,1,2,4,5,6]=some F276:=by kernel_rfl
abbrev F277.fr:=fr6
def F277.b0:IR:=dI [] 1218047319518267237604968440491816405025816939117994924793976582612515619734926414064262619240268191933488630565328286578639177092123101604251774425586523432197878978056490149416349734111482160781473565530917823526878752589670247227
def F277.res:List RV:=[.cell (.of 2) (some 2)]
def F277:Fn:={ params:=[(.of 0)],res:=F277.res,body:=F277.b0,init:=in6 }
theorem F277.ok:fnA Tryz.prog Tryz.f277 [0,1,2,3,4,13]=some F277:=by kernel_rfl
abbrev F278.fr:=fr5
def F278.b0:IR:=dI [] 55184376947679798167141855914339915849999499703382127658654131437516299930955958419903523753845109722806807
def F278.res:List RV:=[.t (.of 2)]
def F278:Fn:={ params:=[(.of 0),(.of 1)],res:=F278.res,body:=F278.b0,init:=in5 }
theorem F278.ok:fnA Tryz.prog Tryz.f278 [0,1,4,6,16]=some F278:=by kernel_rfl
abbrev F279.fr:=fr8
def F279.b0:IR:=dI [] 8329372759940774400493548296215106870318124867452260235578509408306462121053532866020333810170989755134074779
def F279.res:List RV:=[]
def F279:Fn:={ params:=[(.of 0),(.of 1),(.of 2)],res:=F279.res,body:=F279.b0,init:=in8 }
theorem F279.ok:fnA Tryz.prog Tryz.f279 [0,1,2,4,5,6,7,15]=some F279:=by kernel_rfl
abbrev F280.fr:=fr5
def F280.b0:IR:=dI [] 1567162418819745468381534822889582655721678124467546156184877093847249143377175
def F280.res:List RV:=[.t (.of 4)]
def F280:Fn:={ params:=[(.of 0),(.of 1),(.of 2),(.of 3)],res:=F280.res,body:=F280.b0,init:=in5 }
theorem F280.ok:fnA Tryz.prog Tryz.f280 [0,1,2,3,5]=some F280:=by kernel_rfl
abbrev F282.fr:=fr7
def F282.b0:IR:=dI [] 1274501810393979984959708611214303317107730408853442723127491387
def F282.res:List RV:=[.t (.of 3)]
def F282:Fn:={ params:=[(.of 0),(.of 1)],res:=F282.res,body:=F282.b0,init:=in7 }
theorem F282.ok:fnA Tryz.prog Tryz.f282 [0,1,2,4,5,6,7]=some F282:=by kernel_rfl
abbrev F283.fr:=fr23
def F283.b0:IR:=dI [] 977989377768695549526040090246168064625399257163939903609099343532492457851057792264467206154293388296711114360391214008318288203292284956944207440339023334595763553277883335488455076439673891394340744820953899334244765216766034036127931008957245319321804391715109521355742523310530608505103209257925175451534040741216240769013035257304123284408325059526399051930911760063175759229949374097605771590532046763618580154270694432441089826678784705942330433547837341447959511986199082967583755675210009555619569412895586804467982897873766524999374982745657084359016323854216182547290170281106945172771338182779185807594419910556717141425323287
def F283.res:List RV:=[]
def F283:Fn:={ params:=[(.of 0),(.of 1),(.of 2),(.of 3)],res:=F283.res,body:=F283.b0,init:=in23 }
theorem F283.ok:fnA Tryz.prog Tryz.f283 [0,1,2,3,8,9,10,11,12,13,14,15,16,17,18,23,29,35,50,68,72,87,113]=some F283:=by kernel_rfl
abbrev F284.fr:=fr2
def F284.b0:IR:=dI [] 267291367180190582953394333555798400151
def F284.res:List RV:=[.t (.of 1)]
def F284:Fn:={ params:=[(.of 0)],res:=F284.res,body:=F284.b0,init:=in2 }
theorem F284.ok:fnA Tryz.prog Tryz.f284 [0,2]=some F284:=by kernel_rfl
abbrev ug.fr:=fr5
def ug.t0:IR:=.reg (dA [] 46267086)
def ug.t1:IR:=.reg (dA [] 15970817591648020395440)
def ug.t2:IR:=.reg (dA [] 11920667953)
def ug.t3:IR:=.reg [iQo 2 (.mv aC0)]
def ug.zu5 (r:List RO):List RO:=dA r 129902
def ug.r4_2:List RO:=ug.zu5 []
def ug.zfw (r:List RO):List RO:=dA r 3084788854569
def ug.r4_1:List RO:=ug.zfw ug.r4_2
def ug.zfv (r:List RO):List RO:=dA r 458925951402049094113520506052
def ug.r4_0:List RO:=ug.zfv ug.r4_1
def ug.t7:IR:=.reg ug.r4_0
def ug.t11:IR:=.seq ug.t0 (.seq ug.t1 (.seq (.seq ug.t2 (.cond aT4 (.seq ug.t3 .ret) .skip)) (.seq ug.t7 .ret)))
def ug.b0:IR:=ug.t11
def ug.res:List RV:=[.t (.of 2)]
def ug:Fn:={ params:=[(.of 0)],res:=ug.res,body:=ug.b0,init:=in5 }
theorem ug.ok:fnA Tryz.prog Tryz.f285 [0,1,2,4,12]=some ug:=by kernel_rfl
abbrev F286.fr:=fr3
def F286.b0:IR:=dI [] 885970209665141338647
def F286.res:List RV:=[.t (.of 2)]
def F286:Fn:={ params:=[(.of 0),(.of 1)],res:=F286.res,body:=F286.b0,init:=in3 }
theorem F286.ok:fnA Tryz.prog Tryz.f286 [0,1,4]=some F286:=by kernel_rfl
abbrev rq.fr:=fr2
def rq.t0:IR:=.reg [iQo 1 (.mv (.c (.str [])))]
def rq.t1:IR:=.reg (dA [] 20201017302513)
def rq.t3:IR:=.seq rq.t0 (.seq rq.t1 .ret)
def rq.b0:IR:=rq.t3
def rq.res:List RV:=[.t (.of 1)]
def rq:Fn:={ params:=[(.of 0)],res:=rq.res,body:=rq.b0,init:=in2 }
theorem rq.ok:fnA Tryz.prog Tryz.f287 [0,2]=some rq:=by kernel_rfl
abbrev mh.fr:=fr4
def mh.t0:IR:=.reg (dA [] 1046870734)
def mh.t1:IR:=.reg (dA [] 49228009129)
def mh.t2:IR:=.reg (dA [] 2490485658041705)
def mh.t6:IR:=.reg (dA [] 1187552950)
def mh.t9:IR:=.seq mh.t0 (.seq (.seq mh.t1 (.cond aT3 (.seq mh.t2 .ret) .skip)) (.seq mh.t6 .ret))
def mh.b0:IR:=mh.t9
def mh.res:List RV:=[.cell (.of 2) (some 2)]
def mh:Fn:={ params:=[(.of 0)],res:=mh.res,body:=mh.b0,init:=in4 }
theorem mh.ok:fnA Tryz.prog Tryz.f299 [0,1,2,5]=some mh:=by kernel_rfl
abbrev F302.fr:=fr7
def F302.b0:IR:=dI [] 6082608031513028334702023202687457564259017961893946972689107395434361192025477414497917941450362572913832531552113129690621135451527727537344132007374918942961073537344508942583915638938471789457294717997515899410057742024144335847348122715993254334518594745287
def F302.res:List RV:=[]
def F302:Fn:={ params:=[(.of 0),(.of 1),(.of 2)],res:=F302.res,body:=F302.b0,init:=in7 }
theorem F302.ok:fnA Tryz.prog Tryz.f302 [0,1,2,6,7,12,30]=some F302:=by kernel_rfl
abbrev F308.fr:=fr3
def F308.b0:IR:=dI [] 10129667767243049851199560370848413058628039618644719044876029258263
def F308.res:List RV:=[.t (.of 2)]
def F308:Fn:={ params:=[(.of 0),(.of 1)],res:=F308.res,body:=F308.b0,init:=in3 }
theorem F308.ok:fnA Tryz.prog Tryz.f308 [0,1,4]=some F308:=by kernel_rfl
abbrev F311.fr:=fr4
def F311.b0:IR:=dI [] 28816475394010150870741290833483879629845050034988194551153417603793283496251274906261680342411729681865879
def F311.res:List RV:=[.t (.of 1)]
def F311:Fn:={ params:=[(.of 0)],res:=F311.res,body:=F311.b0,init:=in4 }
theorem F311.ok:fnA Tryz.prog Tryz.f311 [0,2,4,8]=some F311:=by kernel_rfl
abbrev yu.fr:=fr5
def yu.t0:IR:=.reg [iQo 1 (.mv aC0)]
def yu.t1:IR:=.reg (dA [] 749209338)
def yu.t2:IR:=.reg (dA [] 387149999601)
def yu.t3:IR:=.reg [iQo 1 (.mv aC32)]
def yu.t7:IR:=.reg (dA [] 18678335226)
def yu.t8:IR:=.reg (dA [] 774340881905)
def yu.t9:IR:=.reg (dA [] 4965166321)
def yu.t13:IR:=.reg (dA [] 32636962554)
def yu.t14:IR:=.reg (dA [] 776488365553)
def yu.t15:IR:=.reg (dA [] 4961496305)
def yu.t19:IR:=.reg (dA [] 10917432737900633538683856)
def yu.t20:IR:=.seq yu.t19 .ret
def yu.t21:IR:=.seq (.seq yu.t13 (.cond aT4 (.seq yu.t14 yu.t15) .skip)) yu.t20
def yu.t22:IR:=.seq (.seq yu.t7 (.cond aT3 (.seq yu.t8 yu.t9) .skip)) yu.t21
def yu.t24:IR:=.seq yu.t0 (.seq (.seq yu.t1 (.cond aT2 (.seq yu.t2 yu.t3) .skip)) yu.t22)
def yu.b0:IR:=yu.t24
def yu.res:List RV:=[.t (.of 1)]
def yu:Fn:={ params:=[(.of 0)],res:=yu.res,body:=yu.b0,init:=in5 }
theorem yu.ok:fnA Tryz.prog Tryz.f312 [0,2,4,8,14]=some yu:=by kernel_rfl
abbrev F313.fr:=fr4
def F313.b0:IR:=dI [] 17170663216323570537724060995548467013098304023
def F313.res:List RV:=[.t (.of 2)]
def F313:Fn:={ params:=[(.of 0),(.of 1)],res:=F313.res,body:=F313.b0,init:=in4 }
theorem F313.ok:fnA Tryz.prog Tryz.f313 [0,1,4,7]=some F313:=by kernel_rfl
abbrev yg.fr:=fr11
def yg.t0:IR:=.reg [iQo 2 (.mv (.c (.str [])))]
def yg.t1:IR:=.reg (dA [] 6401525370)
def yg.t2:IR:=.reg (dA [] 4316967099298885563823781024020436)
def yg.t3:IR:=.reg (dA [] 376954353)
def yg.t7:IR:=.reg (dA [] 1961165)
def yg.t8:IR:=.reg (dA [] 35503601)
def yg.t9:IR:=.reg (dA [] 96306938)
def yg.t10:IR:=.reg (dA [] 34061361)
def yg.t13:IR:=.reg (dA [] 30441856049)
def yg.t14:IR:=.reg (dA [] 17675652646353224490253276)
def yg.t15:IR:=.reg (dA [] 96044794)
def yg.t16:IR:=.reg (dA [] 3542388852552126)
def yg.t17:IR:=.reg (dA [] 122908420112612293596)
def yg.t22:IR:=.reg (dA [] 491633884204130597852)
def yg.t26:IR:=.seq yg.t13 (.seq yg.t14 (.seq (.seq yg.t15 (.cond aT10 (.seq yg.t16 (.seq yg.t17 .ret)) .skip)) (.seq yg.t22 .ret)))
def yg.t29:IR:=.seq yg.t7 (.seq yg.t8 (.seq (.seq yg.t9 (.cond aT9 yg.t10 .skip)) yg.t26))
def yg.t38:IR:=.seq yg.t0 (.seq (.seq yg.t1 (.cond aT7 (.seq (.seq yg.t2 (.cond aT8 (.seq yg.t3 .ret) .skip)) yg.t29) .skip)) (.seq (.reg (dA [] 144431128510431657403285971155163706539680)) (.seq (.reg (dA [] 346)) .ret)))
def yg.b0:IR:=yg.t38
def yg.res:List RV:=[.t (.of 2)]
def yg:Fn:={ params:=[(.of 0),(.of 1)],res:=yg.res,body:=yg.b0,init:=in11 }
theorem yg.ok:fnA Tryz.prog Tryz.f314 [0,1,4,5,6,7,9,11,17,23,34]=some yg:=by kernel_rfl
abbrev bf.fr:=fr3
def bf.t0:IR:=.reg [iQo 1 (.mv (.c (.str [])))]
def bf.t1:IR:=.reg (dA [] 800524026)
def bf.t2:IR:=.reg (dA [] 84831713890399938524)
def bf.t6:IR:=.reg (dA [] 365026864467759903499675285456)
def bf.t9:IR:=.seq bf.t0 (.seq (.seq bf.t1 (.cond aT2 (.seq bf.t2 .ret) .skip)) (.seq bf.t6 .ret))
def bf.b0:IR:=bf.t9
def bf.res:List RV:=[.t (.of 1)]
def bf:Fn:={ params:=[(.of 0)],res:=bf.res,body:=bf.b0,init:=in3 }
theorem bf.ok:fnA Tryz.prog Tryz.f315 [0,2,4]=some bf:=by kernel_rfl
abbrev fQ.fr:=fr3
def fQ.t0:IR:=.reg [iQo 1 (.mv aC0)]
def fQ.t1:IR:=.reg (dA [] 794378576837608)
def fQ.t2:IR:=.reg (dA [] 48447835403876574962352787747852767660)
def fQ.t5:IR:=.seq fQ.t0 (.seq fQ.t1 (.seq fQ.t2 .ret))
def fQ.b0:IR:=fQ.t5
def fQ.res:List RV:=[.t (.of 1)]
def fQ:Fn:={ params:=[(.of 0)],res:=fQ.res,body:=fQ.b0,init:=in3 }
theorem fQ.ok:fnA Tryz.prog Tryz.f316 [0,2,3]=some fQ:=by kernel_rfl
end
end Go.Ev
