import Derived.Test.YtbghckepkajplabGreatDoorIrA
import Derived.Test.YtbghckepkajplabGreatDoorEvC
import Derived.Test.YtbghckepkajplabGreatDoorProg
import Derived.KernelRfl
set_option linter.unusedSimpArgs false
set_option linter.unusedVariables false
namespace Go.Ev
open Go Go.Proofs
set_option maxRecDepth 100000
noncomputable section

abbrev F156.fr:=fr8
def F156.b0:IR:=dI [] 653618457886923226506955556730769613758960482204380148478063639347152821871695437092421002241943
def F156.res:List RV:=[.t (.of 2)]
def F156:Fn:={ params:=[(.of 0),(.of 1)],res:=F156.res,body:=F156.b0,init:=in8 }
theorem F156.ok:fnA Tryz.prog Tryz.f156 [0,1,4,5,6,10,11,12]=some F156:=by kernel_rfl
abbrev F157.fr:=fr4
def F157.b0:IR:=dI [] 1250723778737582049176727
def F157.res:List RV:=[.t (.of 3)]
def F157:Fn:={ params:=[(.of 0),(.of 1),(.of 2)],res:=F157.res,body:=F157.b0,init:=in4 }
theorem F157.ok:fnA Tryz.prog Tryz.f157 [0,1,2,4]=some F157:=by kernel_rfl
abbrev F158.fr:=fr4
def F158.b0:IR:=dI [] 1250725274359814308605079
def F158.res:List RV:=[.t (.of 3)]
def F158:Fn:={ params:=[(.of 0),(.of 1),(.of 2)],res:=F158.res,body:=F158.b0,init:=in4 }
theorem F158.ok:fnA Tryz.prog Tryz.f158 [0,1,2,4]=some F158:=by kernel_rfl
abbrev F159.fr:=fr8
def F159.b0:IR:=dI [] 18272830706945861243614601169268495165076413203434644948793548065658984252801229752738962637422906690717427
def F159.res:List RV:=[]
def F159:Fn:={ params:=[(.of 0),(.of 1),(.of 2)],res:=F159.res,body:=F159.b0,init:=in8 }
theorem F159.ok:fnA Tryz.prog Tryz.f159 [0,1,2,4,5,6,7,15]=some F159:=by kernel_rfl
abbrev F160.fr:=fr5
def F160.b0:IR:=dI [] 640839119293212351584456484540318519738149353442545587177258108361313549200663
def F160.res:List RV:=[.t (.of 4)]
def F160:Fn:={ params:=[(.of 0),(.of 1),(.of 2),(.of 3)],res:=F160.res,body:=F160.b0,init:=in5 }
theorem F160.ok:fnA Tryz.prog Tryz.f160 [0,1,2,3,5]=some F160:=by kernel_rfl
abbrev F161.fr:=fr3
def F161.b0:IR:=dI [] 95326848597169349053105402891671
def F161.res:List RV:=[.t (.of 1)]
def F161:Fn:={ params:=[(.of 0)],res:=F161.res,body:=F161.b0,init:=in3 }
theorem F161.ok:fnA Tryz.prog Tryz.f161 [0,2,3]=some F161:=by kernel_rfl
abbrev F162.fr:=fr3
def F162.b0:IR:=dI [] 47221237772276576406719379
def F162.res:List RV:=[.t (.of 2)]
def F162:Fn:={ params:=[(.of 0)],res:=F162.res,body:=F162.b0,init:=in3 }
theorem F162.ok:fnA Tryz.prog Tryz.f162 [0,1,2]=some F162:=by kernel_rfl
abbrev F163.fr:=fr8
def F163.b0:IR:=dI [] 2825160326617318594994677941894988674791882938929386064907798920424515103661564324029616606728906858538617871767
def F163.res:List RV:=[.t (.of 1)]
def F163:Fn:={ params:=[(.of 0)],res:=F163.res,body:=F163.b0,init:=in8 }
theorem F163.ok:fnA Tryz.prog Tryz.f163 [0,2,3,5,6,7,8,9]=some F163:=by kernel_rfl
abbrev F164.fr:=fr8
def F164.b0:IR:=dI [] 80110193718526119235076692552865361038435916451282523208451728366764373371903226529687
def F164.res:List RV:=[.t (.of 2)]
def F164:Fn:={ params:=[(.of 0),(.of 1)],res:=F164.res,body:=F164.b0,init:=in8 }
theorem F164.ok:fnA Tryz.prog Tryz.f164 [0,1,4,5,6,7,8,15]=some F164:=by kernel_rfl
abbrev F165.fr:=fr3
def F165.b0:IR:=dI [] 1269276405128688917180927084277539482551226236332116476083402497723514400663
def F165.res:List RV:=[.t (.of 2)]
def F165:Fn:={ params:=[(.of 0),(.of 1)],res:=F165.res,body:=F165.b0,init:=in3 }
theorem F165.ok:fnA Tryz.prog Tryz.f165 [0,1,3]=some F165:=by kernel_rfl
abbrev F166.fr:=fr4
def F166.b0:IR:=dI [] 319516535084743630687132774333664103573050471303979160084553277822248094706839
def F166.res:List RV:=[.t (.of 3)]
def F166:Fn:={ params:=[(.of 0),(.of 1),(.of 2)],res:=F166.res,body:=F166.b0,init:=in4 }
theorem F166.ok:fnA Tryz.prog Tryz.f166 [0,1,2,5]=some F166:=by kernel_rfl
abbrev F167.fr:=fr6
def F167.b0:IR:=dI [] 98355572004292045413293440396614114792206419703277826991385848790597895717764347285493504311224681142467555319995198911171312383794808782215945971226642255569426698547478268066853940636331159
def F167.res:List RV:=[.t (.of 3)]
def F167:Fn:={ params:=[(.of 0),(.of 1),(.of 2)],res:=F167.res,body:=F167.b0,init:=in6 }
theorem F167.ok:fnA Tryz.prog Tryz.f167 [0,1,2,4,5,6]=some F167:=by kernel_rfl
abbrev F168.fr:=fr6
def F168.b0:IR:=dI [] 538380906402268171895774074473929999661905848493999582574262676066337995344520988407220326483909465474849283439948285652954309047883280517868695
def F168.res:List RV:=[.t (.of 3)]
def F168:Fn:={ params:=[(.of 0),(.of 1),(.of 2)],res:=F168.res,body:=F168.b0,init:=in6 }
theorem F168.ok:fnA Tryz.prog Tryz.f168 [0,1,2,4,5,6]=some F168:=by kernel_rfl
abbrev F169.fr:=fr6
def F169.b0:IR:=dI [] 932052386343667060303120677673242011440177898781326443409761346089782228295232687429215429052983143628088347313607522734598328146908775593223432084786267017319794703274855076710157181742378438455224012094731337700695817013975042963
def F169.res:List RV:=[.cell (.of 2) (some 2)]
def F169:Fn:={ params:=[(.of 0)],res:=F169.res,body:=F169.b0,init:=in6 }
theorem F169.ok:fnA Tryz.prog Tryz.f169 [0,1,2,3,4,13]=some F169:=by kernel_rfl
abbrev qi.fr:=fr14
def qi.t0:IR:=.reg (dA [] 1015622289585614)
def qi.t1:IR:=.reg (dA [] 2093434573408590845898484943467740896426)
def qi.t2:IR:=.reg (dA [] 690215494600890)
def qi.t3:IR:=.reg (dA [] 271597703317342906165376891850)
def qi.t4:IR:=.reg (dA [] 928630230774)
def qi.t30:IR:=.seq qi.t0 (.seq (.seq qi.t1 (.cond aT10 (.seq qi.t2 (.seq qi.t3 (.cond aT11 (.seq qi.t4 .ret) .skip))) .skip)) (.seq (.reg (dA [] 134266616802207828751410)) (.seq (.reg (dA [] 181481058258867426079794)) (.seq (.block 0 (.seq (.reg (dA [] 58389424365793)) (.cond aT12 (.seq (.reg (dA [] 1045482579255631215433269722)) .ret) (.seq (.reg (dA [] 171044159803342639833)) (.cond aT13 (.seq (.reg (dA [] 1045482579255631490311176666)) .ret) .skip))))) (.seq (.reg (dA [] 2090965158511262980716727258)) .ret)))))
def qi.b0:IR:=qi.t30
def qi.res:List RV:=[.cell (.of 4) (some 2)]
def qi:Fn:={ params:=[(.of 0),(.of 1)],res:=qi.res,body:=qi.b0,init:=in14 }
theorem qi.ok:fnA Tryz.prog Tryz.f170 [0,1,2,3,4,5,6,7,8,9,17,30,43,52]=some qi:=by kernel_rfl
abbrev F171.fr:=fr8
def F171.b0:IR:=dI [] 122497633256650449725942502594342175296772499185630645767935971011529970831579360010036105258846440602961254227499364223613607158913884317818072050690963
def F171.res:List RV:=[.cell (.of 3) (some 2)]
def F171:Fn:={ params:=[(.of 0),(.of 1)],res:=F171.res,body:=F171.b0,init:=in8 }
theorem F171.ok:fnA Tryz.prog Tryz.f171 [0,1,2,4,5,8,13,18]=some F171:=by kernel_rfl
abbrev F172.fr:=fr8
def F172.b0:IR:=dI [] 1702336096954299264032087960964096906545506786408419679977790206946468506781178856997612838692504721889842381876610279347143947119883135347810359099
def F172.res:List RV:=[.t (.of 4)]
def F172:Fn:={ params:=[(.of 0),(.of 1)],res:=F172.res,body:=F172.b0,init:=in8 }
theorem F172.ok:fnA Tryz.prog Tryz.f172 [0,1,2,3,4,12,13,19]=some F172:=by kernel_rfl
abbrev pu.fr:=fr8
def pu.b2:IR:=dI [] 204845516814644023058578160573334178680523941136232374928846577
def pu.g1 (X2:IR):IR:=(.block 0 X2)
def pu.b1:IR:=pu.g1 pu.b2
def pu.b8:IR:=dI [] 3075991
def pu.b0:IR:=dI [pu.b1,pu.b8] 19530634211246387095
def pu.res:List RV:=[.t (.of 2)]
def pu:Fn:={ params:=[(.of 0),(.of 1)],res:=pu.res,body:=pu.b0,init:=in8 }
theorem pu.ok:fnA Tryz.prog Tryz.f173 [0,1,4,5,7,8,9,16]=some pu:=by kernel_rfl
abbrev F174.fr:=fr7
def F174.b0:IR:=dI [] 4313969098306831890090739883593874868855043472052839183137293798211798913858966150434131457347323421930381970508183256983611402141659439768927055150386735581334290625840570437702738461504716375464525448859475837445347161984134534315997678358905284601052820443
def F174.res:List RV:=[]
def F174:Fn:={ params:=[(.of 0),(.of 1),(.of 2)],res:=F174.res,body:=F174.b0,init:=in7 }
theorem F174.ok:fnA Tryz.prog Tryz.f174 [0,1,2,6,7,12,30]=some F174:=by kernel_rfl
abbrev F180.fr:=fr3
def F180.b0:IR:=dI [] 8229461191676085629454012847741699115545311195896745499404821841815
def F180.res:List RV:=[.t (.of 2)]
def F180:Fn:={ params:=[(.of 0),(.of 1)],res:=F180.res,body:=F180.b0,init:=in3 }
theorem F180.ok:fnA Tryz.prog Tryz.f180 [0,1,4]=some F180:=by kernel_rfl
abbrev F183.fr:=fr4
def F183.b0:IR:=dI [] 1378314057263498456089174464515325092889054876000166328070803325924190300340457863660085335283976393516211607
def F183.res:List RV:=[.t (.of 1)]
def F183:Fn:={ params:=[(.of 0)],res:=F183.res,body:=F183.b0,init:=in4 }
theorem F183.ok:fnA Tryz.prog Tryz.f183 [0,2,4,8]=some F183:=by kernel_rfl
abbrev yh.fr:=fr5
def yh.t0:IR:=.reg [iQo 1 (.mv aC0)]
def yh.t1:IR:=.reg (dA [] 29070186232)
def yh.t2:IR:=.reg (dA [] 88976858614)
def yh.t3:IR:=.reg [iQo 1 (.mv aC32)]
def yh.t7:IR:=.reg (dA [] 63429826296)
def yh.t8:IR:=.reg (dA [] 176650395126)
def yh.t9:IR:=.reg (dA [] 12023930102)
def yh.t13:IR:=.reg (dA [] 46249973496)
def yh.t14:IR:=.reg (dA [] 174502911478)
def yh.t15:IR:=.reg (dA [] 5917023478)
def yh.t19:IR:=.reg (dA [] 26888240334439603555263442)
def yh.t20:IR:=.seq yh.t19 .ret
def yh.t21:IR:=.seq (.seq yh.t13 (.cond aT4 (.seq yh.t14 yh.t15) .skip)) yh.t20
def yh.t22:IR:=.seq (.seq yh.t7 (.cond aT3 (.seq yh.t8 yh.t9) .skip)) yh.t21
def yh.t24:IR:=.seq yh.t0 (.seq (.seq yh.t1 (.cond aT2 (.seq yh.t2 yh.t3) .skip)) yh.t22)
def yh.b0:IR:=yh.t24
def yh.res:List RV:=[.t (.of 1)]
def yh:Fn:={ params:=[(.of 0)],res:=yh.res,body:=yh.b0,init:=in5 }
theorem yh.ok:fnA Tryz.prog Tryz.f184 [0,2,4,8,14]=some yh:=by kernel_rfl
abbrev jm.fr:=fr5
def jm.t0:IR:=.reg (dA [] 99742436)
def jm.t1:IR:=.reg (dA [] 62107565671874490070066)
def jm.t2:IR:=.reg (dA [] 11854567094)
def jm.t3:IR:=.reg [iQo 2 (.mv aC0)]
def jm.zwy (r:List RO):List RO:=dA r 7427996
def jm.r4_2:List RO:=jm.zwy []
def jm.zgn (r:List RO):List RO:=dA r 2947400232782
def jm.r4_1:List RO:=jm.zgn jm.r4_2
def jm.zgm (r:List RO):List RO:=dA r 620762661466698802094073797322
def jm.r4_0:List RO:=jm.zgm jm.r4_1
def jm.t7:IR:=.reg jm.r4_0
def jm.t11:IR:=.seq jm.t0 (.seq jm.t1 (.seq (.seq jm.t2 (.cond aT4 (.seq jm.t3 .ret) .skip)) (.seq jm.t7 .ret)))
def jm.b0:IR:=jm.t11
def jm.res:List RV:=[.t (.of 2)]
def jm:Fn:={ params:=[(.of 0)],res:=jm.res,body:=jm.b0,init:=in5 }
theorem jm.ok:fnA Tryz.prog Tryz.f185 [0,1,2,4,12]=some jm:=by kernel_rfl
abbrev mq.fr:=fr18
def mq.t0:IR:=.reg (dA [] 6743519972)
def mq.t1:IR:=.reg (dA [] 22650943414062)
def mq.t2:IR:=.reg (dA [] 62319701761105)
def mq.t60:IR:=.seq mq.t0 (.seq (.seq mq.t1 (.cond aT12 (.seq mq.t2 .ret) .skip)) (.seq (.reg (dA [] 10415177091321899054130)) (.seq (.reg (dA [] 1754987429484)) (iSr [(iQo 6 (.mv (.c .zb)))] (.seq (.block 0 (.loop (.seq (.seq (.reg (dA [] 95451239478)) (.cond aT13 .skip (.exit 0))) (.block 1 (.seq (.reg (dA [] 3692363975769163304919242)) (.seq (.reg (dA [] 1179237)) (.seq (.seq (.reg (dA [] 762949751542)) (.cond aT14 (.reg (dA [] 351907031845797776345)) .skip)) (.seq (.seq (.reg (dA [] 382011747510)) (.cond aT15 (.reg (dA [] 49599514449890408163465545400443602)) .skip)) (.seq (.reg (dA [] 493986501130700101698009)) (.reg (dA [] 8792))))))))))) (.seq (.reg (dA [] 3595741)) (.seq (.seq (.reg (dA [] 43141)) (.cond aT16 (.reg (dA [] 438927866861)) .skip)) (.seq (.seq (.reg (dA [] 691401216225)) (.block 2 (.loop (.seq (.seq (.reg (dA [] 12275334136)) (.cond aT17 .skip (.exit 2))) (.seq (.block 3 (.reg (dA [] 9867099791519891929))) (.reg (dA [] 10803148790))))))) (.seq (.reg (dA [] 7553277940)) .ret)))))))))
def mq.b0:IR:=mq.t60
def mq.res:List RV:=[.t (.of 2)]
def mq:Fn:={ params:=[(.of 0)],res:=mq.res,body:=mq.b0,init:=in18 }
theorem mq.ok:fnA Tryz.prog Tryz.f187 [0,1,2,3,4,5,6,7,8,9,10,11,14,26,35,42,54,60]=some mq:=by kernel_rfl
abbrev xq.fr:=fr3
def xq.t0:IR:=.reg (dA [] 418509540)
def xq.rT (r:List RO):List RO:=dA r 32395676390636430
def xq.tO:List RO:=xq.rT []
def xq.rR (r:List RO):List RO:=dA r 24901429752277918194927955932330
def xq.sH:List RO:=xq.rR xq.tO
def xq.t1:IR:=.reg xq.sH
def xq.t3:IR:=.seq xq.t0 (.seq xq.t1 .ret)
def xq.b0:IR:=xq.t3
def xq.res:List RV:=[.t (.of 2)]
def xq:Fn:={ params:=[(.of 0)],res:=xq.res,body:=xq.b0,init:=in3 }
theorem xq.ok:fnA Tryz.prog Tryz.f188 [0,1,2]=some xq:=by kernel_rfl
abbrev qp.fr:=fr6
def qp.t0:IR:=.reg (dA [] 1578572243006926)
def qp.t1:IR:=.reg (dA [] 7999007339897139541181533024740410)
def qp.t2:IR:=.reg (dA [] 9113298923815739987830623029426)
def qp.t6:IR:=dI [] 14844911271078367724529982814785897303040223891761531878995960403097662752773211714898113373019091571757273267389689
def qp.t7:IR:=.seq qp.t6 .ret
def qp.t9:IR:=.seq qp.t0 (.seq (.seq qp.t1 (.cond aT5 (.seq qp.t2 .ret) .skip)) qp.t7)
def qp.b0:IR:=qp.t9
def qp.res:List RV:=[.cell (.of 4) (some 4)]
def qp:Fn:={ params:=[(.of 0),(.of 1)],res:=qp.res,body:=qp.b0,init:=in6 }
theorem qp.ok:fnA Tryz.prog Tryz.f189 [0,1,2,3,4,10]=some qp:=by kernel_rfl
abbrev jy.fr:=fr14
def jy.t0:IR:=.reg (dA [] 1015622289585614)
def jy.t1:IR:=.reg (dA [] 2093413804221156706587970821482424016042)
def jy.t2:IR:=dI [] 40254453767154500126580746911881541245305487188706462880121
def jy.t3:IR:=.reg (dA [] 2000247817665048099003671695784922)
def jy.t4:IR:=.reg (dA [] 264496623979328998796675250)
def jy.t5:IR:=.reg (dA [] 62319319762477113817)
def jy.t9:IR:=.reg (dA [] 7607338839503073)
def jy.t24:IR:=.seq jy.t0 (.seq (.seq jy.t1 (.cond aT11 (.seq jy.t2 (.seq jy.t3 (.cond aT12 (.seq (.seq jy.t4 (.cond aT13 (.seq jy.t5 .ret) .skip)) (.seq jy.t9 .ret)) .skip))) .skip)) (.seq (.reg (dA [] 115386374242766102672434)) (.seq (.reg (dA [] 419582407390273463563314)) (.seq (.reg (dA [] 70161148225635542462032722652222154)) .ret))))
def jy.b0:IR:=jy.t24
def jy.res:List RV:=[.cell (.of 4) (some 2)]
def jy:Fn:={ params:=[(.of 0),(.of 1)],res:=jy.res,body:=jy.b0,init:=in14 }
theorem jy.ok:fnA Tryz.prog Tryz.f190 [0,1,2,3,4,5,6,7,8,9,10,18,34,41]=some jy:=by kernel_rfl
abbrev gu.fr:=fr7
def gu.t0:IR:=.reg (dA [] 1015622289585614)
def gu.t1:IR:=dI [] 1104391549783289797502567579464085165186425
def gu.t2:IR:=.reg (dA [] 6221815294569742)
def gu.t5:IR:=.reg (dA [] 9666080079663915835817953926328311262111810)
def gu.t6:IR:=dI [] 245224185354178375828965625
def gu.t9:IR:=.seq (.seq gu.t2 (.cond aT6 .skip (.exit 0))) (.block 1 (.seq gu.t5 gu.t6))
def gu.t10:IR:=.loop gu.t9
def gu.t12:IR:=.reg (dA [] 113370756)
def gu.t16:IR:=.seq gu.t0 (.seq gu.t1 (.seq (.block 0 gu.t10) (.seq gu.t12 .ret)))
def gu.b0:IR:=gu.t16
def gu.res:List RV:=[.cell (.of 4) (some 2)]
def gu:Fn:={ params:=[(.of 0),(.of 1)],res:=gu.res,body:=gu.b0,init:=in7 }
theorem gu.ok:fnA Tryz.prog Tryz.f191 [0,1,2,3,4,6,13]=some gu:=by kernel_rfl
abbrev qa.fr:=fr7
def qa.t0:IR:=.reg (dA [] 1015622289585614)
def qa.t1:IR:=.reg (dA [] 6468105899191566)
def qa.t2:IR:=dI [] 1104391549783289764861569963480337692106105
def qa.t5:IR:=.reg (dA [] 9299852594571855131854628708502466915625026)
def qa.t6:IR:=.reg (dA [] 226745988)
def qa.t8:IR:=.seq qa.t5 (.seq qa.t6 .ret)
def qa.t10:IR:=.seq qa.t0 (.seq (.seq qa.t1 (.cond aT6 qa.t2 .skip)) qa.t8)
def qa.b0:IR:=qa.t10
def qa.res:List RV:=[.cell (.of 4) (some 2)]
def qa:Fn:={ params:=[(.of 0),(.of 1)],res:=qa.res,body:=qa.b0,init:=in7 }
theorem qa.ok:fnA Tryz.prog Tryz.f192 [0,1,2,3,4,5,9]=some qa:=by kernel_rfl
abbrev qh.fr:=fr6
def qh.t0:IR:=.reg (dA [] 1413881259470)
def qh.t1:IR:=.reg (dA [] 73202111823441)
def qh.t4:IR:=.reg (dA [] 11860417617)
def qh.t5:IR:=.reg (dA [] 10787056)
def qh.t12:IR:=dI [] 277458630484865105380716201318386392855895127289
def qh.t15:IR:=.seq qh.t0 (.seq (.block 0 (.seq qh.t1 (.cond aT4 (.seq (.wm [] [(.s (.zal 0 aT1),0,[]),(.s (.load aS0),0,[]),(.s (.bin .lss .int aS0 aC0),0,[]),(.s (.zal 1 aT1),0,[]),(.s (.load aS0),0,[]),(iQm 2 2,0,[]),(iQm 3 0,0,[])]) .ret) (.seq qh.t4 (.cond aT5 (.seq qh.t5 .ret) .skip))))) (.seq qh.t12 .ret))
def qh.b0:IR:=qh.t15
def qh.res:List RV:=[.t (.of 2),.t (.of 3)]
def qh:Fn:={ params:=[(.of 0)],res:=qh.res,body:=qh.b0,init:=in6 }
theorem qh.ok:fnA Tryz.prog Tryz.f193 [0,1,2,3,4,13]=some qh:=by kernel_rfl
abbrev jq.fr:=fr5
def jq.t0:IR:=.reg [iQo 1 (.mv aC0)]
def jq.t1:IR:=.reg [iQo 2 (.mv aC0)]
def jq.t2:IR:=.reg [iQo 3 (.mv aC0)]
def jq.t3:IR:=.reg (dA [] 10946592240993)
def jq.t6:IR:=.reg (dA [] 4652788473762949355892775936223410601)
def jq.t8:IR:=.reg (dA [] 37658294)
def jq.t10:IR:=.seq (.seq jq.t3 (.cond aT4 .skip (.exit 0))) (.seq (.block 1 jq.t6) jq.t8)
def jq.t11:IR:=.loop jq.t10
def jq.t14:IR:=.reg (dA [] 22936)
def jq.t18:IR:=.seq jq.t0 (.seq jq.t1 (.seq (.seq jq.t2 (.block 0 jq.t11)) (.seq jq.t14 .ret)))
def jq.b0:IR:=jq.t18
def jq.res:List RV:=[.t (.of 1)]
def jq:Fn:={ params:=[(.of 0)],res:=jq.res,body:=jq.b0,init:=in5 }
theorem jq.ok:fnA Tryz.prog Tryz.f195 [0,2,3,4,8]=some jq:=by kernel_rfl
abbrev mh.fr:=fr3
def mh.t0:IR:=.reg (dA [] 128477)
def mh.t1:IR:=.reg (dA [] 47606396150)
def mh.t2:IR:=.reg (dA [] 1118922766326371631333163991097916785905577)
def mh.t5:IR:=.seq mh.t0 (.seq mh.t1 (.seq mh.t2 .ret))
def mh.b0:IR:=mh.t5
def mh.res:List RV:=[.cell (.of 2) (some 2)]
def mh:Fn:={ params:=[(.of 0),(.of 1)],res:=mh.res,body:=mh.b0,init:=in3 }
theorem mh.ok:fnA Tryz.prog Tryz.f196 [0,1,4]=some mh:=by kernel_rfl
abbrev zy.fr:=fr9
def zy.t0:IR:=.reg [iQo 2 (.mv aC0)]
def zy.t1:IR:=.reg (dA [] 334897205041113)
def zy.t2:IR:=.reg (dA [] 349740612016089)
def zy.t3:IR:=.reg [iQo 2 (.mv (.c (I (-1))))]
def zy.t7:IR:=.reg [iQo 2 (.mv aC1)]
def zy.t12:IR:=.reg (dA [] 19283094497)
def zy.t13:IR:=.reg (dA [] 191846232)
def zy.t16:IR:=dI [] 17238293258333738731130841288493487353
def zy.t17:IR:=.reg [iQo 2 (.mv (.c (I (-1))))]
def zy.t21:IR:=dI [] 34460979678816932761603106034506257657
def zy.t22:IR:=.reg [iQo 2 (.mv aC1)]
def zy.t28:IR:=.reg (dA [] 75325110)
def zy.t30:IR:=.seq (.seq zy.t13 (.cond aT6 .skip (.exit 0))) (.seq (.block 1 (.seq (.seq zy.t16 (.cond aT7 (.seq zy.t17 .ret) .skip)) (.seq zy.t21 (.cond aT8 (.seq zy.t22 .ret) .skip)))) zy.t28)
def zy.t31:IR:=.loop zy.t30
def zy.t34:IR:=.reg [iQo 2 (.mv aC0)]
def zy.t38:IR:=.seq zy.t0 (.seq (.seq zy.t1 (.cond aT4 (.seq (.seq zy.t2 (.cond aT5 (.seq zy.t3 .ret) .skip)) (.seq zy.t7 .ret)) .skip)) (.seq (.seq zy.t12 (.block 0 zy.t31)) (.seq zy.t34 .ret)))
def zy.b0:IR:=zy.t38
def zy.res:List RV:=[.t (.of 2)]
def zy:Fn:={ params:=[(.of 0),(.of 1)],res:=zy.res,body:=zy.b0,init:=in9 }
theorem zy.ok:fnA Tryz.prog Tryz.f197 [0,1,4,5,10,15,20,31,40]=some zy:=by kernel_rfl
abbrev jb.fr:=fr9
def jb.t0:IR:=.reg (dA [] 5838064)
def jb.t1:IR:=.reg (dA [] 17613584116705)
def jb.t2:IR:=.reg [iQo 5 (.mv aC0)]
def jb.t3:IR:=.reg (dA [] 225441524705)
def jb.t4:IR:=.reg (dA [] 383659064)
def jb.t7:IR:=.reg (dA [] 34141805453199752225684426)
def jb.t8:IR:=.reg (dA [] 16246969541975357454868690)
def jb.t9:IR:=.reg (dA [] 3585730913)
def jb.t13:IR:=.reg (dA [] 1761261686)
def jb.t15:IR:=.seq (.seq jb.t4 (.cond aT8 .skip (.exit 0))) (.seq (.block 1 (.seq jb.t7 (.seq jb.t8 jb.t9))) jb.t13)
def jb.t16:IR:=.loop jb.t15
def jb.t19:IR:=.reg (dA [] 2740937906180313)
def jb.t24:IR:=.seq jb.t0 (.seq jb.t1 (.seq jb.t2 (.seq (.seq jb.t3 (.block 0 jb.t16)) (.seq jb.t19 .ret))))
def jb.b0:IR:=jb.t24
def jb.res:List RV:=[.t (.of 2),.t (.of 3)]
def jb:Fn:={ params:=[(.of 0),(.of 1)],res:=jb.res,body:=jb.b0,init:=in9 }
theorem jb.ok:fnA Tryz.prog Tryz.f198 [0,1,4,5,6,7,8,9,17]=some jb:=by kernel_rfl
abbrev ji.fr:=fr3
def ji.t0:IR:=.reg [iQo 1 (.mv (.c .zb))]
def ji.rT (r:List RO):List RO:=dA r 3908790033316247662729969390897
def ji.tO:List RO:=ji.rT []
def ji.rR (r:List RO):List RO:=dA r 2542568110955867984830751938533322
def ji.sH:List RO:=ji.rR ji.tO
def ji.t1:IR:=.reg ji.sH
def ji.t4:IR:=.reg (dA [] 47044550568891377626)
def ji.t6:IR:=.seq (.seq ji.t1 (.cond aT2 .skip (.exit 0))) (.block 1 ji.t4)
def ji.t7:IR:=.loop ji.t6
def ji.t9:IR:=.reg (dA [] 22776)
def ji.t12:IR:=.seq ji.t0 (.seq (.block 0 ji.t7) (.seq ji.t9 .ret))
def ji.b0:IR:=ji.t12
def ji.res:List RV:=[.t (.of 1)]
def ji:Fn:={ params:=[(.of 0)],res:=ji.res,body:=ji.b0,init:=in3 }
theorem ji.ok:fnA Tryz.prog Tryz.f199 [0,2,14]=some ji:=by kernel_rfl
abbrev nS.fr:=fr3
def nS.t0:IR:=.reg (dA [] 4209898212)
def nS.t1:IR:=.reg (dA [] 1987598656638164036396988594)
def nS.t3:IR:=.seq nS.t0 (.seq nS.t1 .ret)
def nS.b0:IR:=nS.t3
def nS.res:List RV:=[.cell (.of 2) (some 2)]
def nS:Fn:={ params:=[(.of 0)],res:=nS.res,body:=nS.b0,init:=in3 }
theorem nS.ok:fnA Tryz.prog Tryz.f202 [0,1,2]=some nS:=by kernel_rfl
abbrev yo.fr:=fr8
def yo.t0:IR:=.reg (dA [] 6743519972)
def yo.t1:IR:=.reg (dA [] 48521946283601)
def yo.t2:IR:=.reg (dA [] 294885)
def yo.t6:IR:=.reg (dA [] 2911035760907121783074958373353794)
def yo.t7:IR:=.reg (dA [] 1231271740996793)
def yo.t8:IR:=.reg (dA [] 191845912)
def yo.t11:IR:=.reg (dA [] 90139671993994671282537549837737)
def yo.t13:IR:=.reg (dA [] 142433334)
def yo.t15:IR:=.seq (.seq yo.t8 (.cond aT6 .skip (.exit 0))) (.seq (.block 1 yo.t11) yo.t13)
def yo.t16:IR:=.loop yo.t15
def yo.t19:IR:=.reg (dA [] 59631380)
def yo.t20:IR:=.reg (dA [] 121973972662)
def yo.t24:IR:=.reg (dA [] 14680)
def yo.t30:IR:=.seq yo.t0 (.seq (.seq yo.t1 (.cond aT5 (.seq yo.t2 .ret) .skip)) (.seq yo.t6 (.seq (.seq yo.t7 (.block 0 yo.t16)) (.seq (.seq yo.t19 (.cond aT7 (.seq yo.t20 .ret) .skip)) (.seq yo.t24 .ret)))))
def yo.b0:IR:=yo.t30
def yo.res:List RV:=[.t (.of 2)]
def yo:Fn:={ params:=[(.of 0)],res:=yo.res,body:=yo.b0,init:=in8 }
theorem yo.ok:fnA Tryz.prog Tryz.f203 [0,1,2,3,4,8,23,35]=some yo:=by kernel_rfl
abbrev kz.fr:=fr4
def kz.t0:IR:=.reg [iQo 2 (.mv aC0)]
def kz.t1:IR:=.reg (dA [] 46552696)
def kz.t4:IR:=dI [] 61413650231599068875976057
def kz.t6:IR:=.seq (.seq kz.t1 (.cond aT3 .skip (.exit 0))) (.block 1 kz.t4)
def kz.t7:IR:=.loop kz.t6
def kz.t9:IR:=.reg (dA [] 14584)
def kz.t12:IR:=.seq kz.t0 (.seq (.block 0 kz.t7) (.seq kz.t9 .ret))
def kz.b0:IR:=kz.t12
def kz.res:List RV:=[.t (.of 2)]
def kz:Fn:={ params:=[(.of 0),(.of 1)],res:=kz.res,body:=kz.b0,init:=in4 }
theorem kz.ok:fnA Tryz.prog Tryz.f204 [0,1,4,6]=some kz:=by kernel_rfl
abbrev yx.fr:=fr5
def yx.t0:IR:=.reg [iQo 2 (.mv (.c (.str [])))]
def yx.t1:IR:=.reg [iQo 3 (.mv (.c (.str [])))]
def yx.zwo (r:List RO):List RO:=dA r 196628173531588592682411501191952562122
def yx.r2_0:List RO:=yx.zwo []
def yx.t2:IR:=.reg yx.r2_0
def yx.t3:IR:=.cond aT4 .skip (.exit 0)
def yx.t5:IR:=.reg (dA [] 94006326490817962494443655023329472425)
def yx.t6:IR:=.reg (dA [] 21805293046)
def yx.t8:IR:=.block 1 (.seq yx.t5 yx.t6)
def yx.t9:IR:=.seq (.seq yx.t2 yx.t3) yx.t8
def yx.t10:IR:=.loop yx.t9
def yx.t12:IR:=.reg (dA [] 14680)
def yx.t13:IR:=.seq yx.t12 .ret
def yx.t16:IR:=.seq yx.t0 (.seq yx.t1 (.seq (.block 0 yx.t10) yx.t13))
def yx.b0:IR:=yx.t16
def yx.res:List RV:=[.t (.of 2)]
def yx:Fn:={ params:=[(.of 0),(.of 1)],res:=yx.res,body:=yx.b0,init:=in5 }
theorem yx.ok:fnA Tryz.prog Tryz.f205 [0,1,4,5,13]=some yx:=by kernel_rfl
abbrev uo.fr:=fr4
def uo.t0:IR:=.reg [iQo 1 (.mv aC0)]
def uo.t1:IR:=.reg (dA [] 19312269048)
def uo.t2:IR:=.reg [iQo 1 (.mv aC0)]
def uo.t6:IR:=.reg (dA [] 1046630309571925318639158526730644158410)
def uo.t7:IR:=.reg [iQo 1 (.mv (.c (I (-1))))]
def uo.t11:IR:=.reg [iQo 1 (.mv aC1)]
def uo.t15:IR:=.seq uo.t0 (.seq (.seq uo.t1 (.cond aT2 (.seq uo.t2 .ret) .skip)) (.seq (.seq uo.t6 (.cond aT3 (.seq uo.t7 .ret) .skip)) (.seq uo.t11 .ret)))
def uo.b0:IR:=uo.t15
def uo.res:List RV:=[.t (.of 1)]
def uo:Fn:={ params:=[(.of 0)],res:=uo.res,body:=uo.b0,init:=in4 }
theorem uo.ok:fnA Tryz.prog Tryz.f207 [0,2,4,12]=some uo:=by kernel_rfl
abbrev F216.fr:=oI
def F216.b0:IR:=dI [] 391972615390357276702716099668143312303638559632030764743831846535575725328673076740261368668250841480880067175795145944983
def F216.res:List RV:=[.t (.of 2)]
def F216:Fn:={ params:=[(.of 0),(.of 1)],res:=F216.res,body:=F216.b0,init:=o9 }
theorem F216.ok:fnA Tryz.prog Tryz.f216 [0,1,4,5,6,11,12,13,16,19]=some F216:=by kernel_rfl
abbrev F217.fr:=fr20
def F217.b0:IR:=dI [] 330872021689054198287754986879648225341288527667606743226108156776495820659827097447161328385138781022864064644638854202769559246726887323148963834995528086301489725152806479403860065557752151549054525204416068114219475031903165596503017054278029821657806288378411800849561648679143861393654994819589838796290104989494847710646149563570378997373471095297622068208602061916897853361181343120928705986108931144945161813773846077102328718527957077769525223752098335434987133602155668699533043201178782723960997286303247483741939756019730067015
def F217.res:List RV:=[.cell (.of 3) none,.cell (.of 4) none,.cell (.of 5) none]
def F217:Fn:={ params:=[(.of 0),(.of 1)],res:=F217.res,body:=F217.b0,init:=in20 }
theorem F217.ok:fnA Tryz.prog Tryz.f217 [0,1,2,4,5,6,7,8,9,10,11,12,13,27,33,36,37,38,50,68]=some F217:=by kernel_rfl
abbrev F218.fr:=fr9
def F218.b0:IR:=dI [] 54740150184514990366319222065005867077176776122871759646878991803432012381318140997604593274363
def F218.res:List RV:=[]
def F218:Fn:={ params:=[(.of 0),(.of 1)],res:=F218.res,body:=F218.b0,init:=in9 }
theorem F218.ok:fnA Tryz.prog Tryz.f218 [0,1,3,4,5,6,7,8,16]=some F218:=by kernel_rfl
abbrev F219.fr:=fr24
def F219.b0:IR:=dI [] 124027952731239025256056563839517847298555467758027444699787577504322724053428015764324760648569451334234871399567063336987397439051831460698916329793924560642498794488364835449344760524998848997135891143384777182087897749395954829004718931723556109639037895947908523513662342221345924940881504525606204703728526318363968141736894837235535065059083547594129291965765274071696082441949854074804010303792809779446772724560455084606000835701190463116067617321930685972145666843642773461658552556503260115499578179894580821394651685489356056198342602466525580295790361371507362429714558427824477366078100701494350965875615616896026160310053869958553628437681890303927443050065004516950462438187630023863101757192086551
def F219.res:List RV:=[]
def F219:Fn:={ params:=[(.of 0),(.of 1),(.of 2),(.of 3),(.of 4)],res:=F219.res,body:=F219.b0,init:=in24 }
theorem F219.ok:fnA Tryz.prog Tryz.f219 [0,1,2,3,4,10,11,12,13,14,15,16,17,18,19,20,25,32,39,56,75,80,97,125]=some F219:=by kernel_rfl
abbrev F220.fr:=fr2
def F220.b0:IR:=dI [] 21628854554296405399
def F220.res:List RV:=[.t (.of 1)]
def F220:Fn:={ params:=[(.of 0)],res:=F220.res,body:=F220.b0,init:=in2 }
theorem F220.ok:fnA Tryz.prog Tryz.f220 [0,2]=some F220:=by kernel_rfl
abbrev F221.fr:=fr8
def F221.b0:IR:=dI [] 219951198919874070920144410493648626055579305443573107300771682004651515
def F221.res:List RV:=[]
def F221:Fn:={ params:=[(.of 0),(.of 1)],res:=F221.res,body:=F221.b0,init:=in8 }
theorem F221.ok:fnA Tryz.prog Tryz.f221 [0,1,4,5,6,7,8,14]=some F221:=by kernel_rfl
abbrev F222.fr:=fr2
def F222.b0:IR:=dI [] 2705262576685096343
def F222.res:List RV:=[.t (.of 1)]
def F222:Fn:={ params:=[(.of 0)],res:=F222.res,body:=F222.b0,init:=in2 }
theorem F222.ok:fnA Tryz.prog Tryz.f222 [0,2]=some F222:=by kernel_rfl
abbrev F227.fr:=fr5
def F227.b0:IR:=dI [] 8241053168251323118377121746899175789517100442179387
def F227.res:List RV:=[.cell (.of 4) (some 2)]
def F227:Fn:={ params:=[(.of 0),(.of 1)],res:=F227.res,body:=F227.b0,init:=in5 }
theorem F227.ok:fnA Tryz.prog Tryz.f227 [0,1,2,3,4]=some F227:=by kernel_rfl
abbrev aW.fr:=fr2
def aW.b0:IR:=dI [] 169114713610751383
def aW.res:List RV:=[.t (.of 1)]
def aW:Fn:={ params:=[(.of 0)],res:=aW.res,body:=aW.b0,init:=in2 }
theorem aW.ok:fnA Tryz.prog Tryz.f233 [0,2]=some aW:=by kernel_rfl
abbrev jd.fr:=fr12
def jd.t0:IR:=.reg (dA [] 16786909424)
def jd.t1:IR:=.reg (dA [] 142636637686)
def jd.t2:IR:=.reg (dA [] 3077512694)
def jd.t3:IR:=.reg (dA [] 898550881526)
def jd.t4:IR:=.reg (dA [] 243595681014)
def jd.t5:IR:=.reg (dA [] 207940513889)
def jd.t6:IR:=.reg (dA [] 11531123049594045532855250)
def jd.t7:IR:=.reg (dA [] 6068104689846)
def jd.t8:IR:=.reg (dA [] 1386699585718)
def jd.t9:IR:=.reg (dA [] 3178307310992853210)
def jd.t10:IR:=.reg (dA [] 17941421125925269309949936514985)
def jd.t11:IR:=.reg (dA [] 9481024481)
def jd.t23:IR:=.seq jd.t0 (.seq jd.t1 (.seq jd.t2 (.seq jd.t3 (.seq jd.t4 (.seq jd.t5 (.seq jd.t6 (.seq jd.t7 (.seq jd.t8 (.seq jd.t9 (.seq jd.t10 (.seq jd.t11 .ret)))))))))))
def jd.b0:IR:=jd.t23
def jd.res:List RV:=[.t (.of 2),.t (.of 3)]
def jd:Fn:={ params:=[(.of 0),(.of 1)],res:=jd.res,body:=jd.b0,init:=in12 }
theorem jd.ok:fnA Tryz.prog Tryz.f240 [0,1,4,5,6,7,8,9,10,11,12,13]=some jd:=by kernel_rfl
abbrev xk.fr:=fr3
def xk.t0:IR:=.reg (dA [] 1024869)
def xk.t1:IR:=.reg (dA [] 24106744)
def xk.t2:IR:=.reg (dA [] 1527793155041)
def xk.t6:IR:=.reg (dA [] 186498550)
def xk.t9:IR:=.seq xk.t0 (.seq (.seq xk.t1 (.cond aT2 (.seq xk.t2 .ret) .skip)) (.seq xk.t6 .ret))
def xk.b0:IR:=xk.t9
def xk.res:List RV:=[.t (.of 1)]
def xk:Fn:={ params:=[(.of 0)],res:=xk.res,body:=xk.b0,init:=in3 }
theorem xk.ok:fnA Tryz.prog Tryz.f241 [0,2,4]=some xk:=by kernel_rfl
abbrev ve.fr:=fr4
def ve.t0:IR:=.reg (dA [] 2062414564)
def ve.t1:IR:=.reg (dA [] 49169288750)
def ve.t2:IR:=.reg (dA [] 3615423006063886)
def ve.t6:IR:=.reg (dA [] 1723965060)
def ve.t9:IR:=.seq ve.t0 (.seq (.seq ve.t1 (.cond aT3 (.seq ve.t2 .ret) .skip)) (.seq ve.t6 .ret))
def ve.b0:IR:=ve.t9
def ve.res:List RV:=[.cell (.of 2) (some 2)]
def ve:Fn:={ params:=[(.of 0)],res:=ve.res,body:=ve.b0,init:=in4 }
theorem ve.ok:fnA Tryz.prog Tryz.f243 [0,1,2,5]=some ve:=by kernel_rfl
abbrev jk.fr:=fr18
def jk.t0:IR:=.reg (dA [] 133430177404684856209)
def jk.rT (r:List RO):List RO:=dA r 243710807883648471696165696857
def jk.tO:List RO:=jk.rT []
def jk.rR (r:List RO):List RO:=dA r 65413961141357875251245577804112174250
def jk.sH:List RO:=jk.rR jk.tO
def jk.t1:IR:=.reg jk.sH
def jk.t2:IR:=dI [] 301381128400977314177713530773601847832974076236153
def jk.t3:IR:=.reg (dA [] 383921752)
def jk.t4:IR:=dI [] 33460739847608215024203270086255993
def jk.t7:IR:=.reg (dA [] 8617494902924481410840601050)
def jk.t29:IR:=.seq jk.t0 (.seq (.seq jk.t1 (.cond aT15 (.seq jk.t2 (.seq (.seq jk.t3 (.cond aT16 jk.t4 .skip)) (.seq jk.t7 .ret))) .skip)) (.seq (.reg (dA [] 181481058258867426112562)) (.seq (.reg (dA [] 258676070521323472204850)) (.seq (.reg (dA [] 257322259107370643315860170)) (.seq (.reg (dA [] 3737810017473918909313267973973530744304802058934146)) (.seq (.seq (.reg (dA [] 827161859510107406)) (.cond aT17 (.wm [] [((.s (.zi 2 aT13)),1,[]),((.s (.zi 2 aT14)),2,[]),((.s (.zi 2 aT3)),2,[]),((iCa 131 [aC1]),0,[]),((iCa 227 [aS3,aS0]),0,[]),((iCa 170 [aS3,aS2]),0,[]),((.w .none none (.store 2 aT13 aS1)),0,[]),((.w .none none (.store 2 aT14 aS0)),0,[])]) .skip)) (.seq (.wm [] [((.s (.zi 2 aT13)),0,[]),((.s (.zi 2 aT14)),1,[]),((.w .none none (.store 2 aT4 aS1)),0,[]),((.w .none none (.store 2 aT5 aS0)),0,[])]) .ret)))))))
def jk.b0:IR:=jk.t29
def jk.res:List RV:=[.cell (.of 4) (some 2),.cell (.of 5) (some 2)]
def jk:Fn:={ params:=[(.of 0),(.of 1)],res:=jk.res,body:=jk.b0,init:=in18 }
theorem jk.ok:fnA Tryz.prog Tryz.f244 [0,1,2,3,4,5,6,7,8,9,11,12,13,14,15,28,40,75]=some jk:=by kernel_rfl
abbrev F250.fr:=oI
def F250.b0:IR:=dI [] 22281178898164556688780835261102707001619425552447534795976617846514604083034758625492654386217979075621728151
def F250.res:List RV:=[.t (.of 2)]
def F250:Fn:={ params:=[(.of 0),(.of 1)],res:=F250.res,body:=F250.b0,init:=o9 }
theorem F250.ok:fnA Tryz.prog Tryz.f250 [0,1,4,6,7,8,9,10,11,18]=some F250:=by kernel_rfl
abbrev F251.fr:=fr25
def F251.b0:IR:=dI [] 26280133315266322734182533758162964558393921576777364753328130942665422337964010123299064844091038249346533434040908267524306266773126668202571466002803801169392899762824673177042779021426988879798796727777621752379107266732533818410550834545104338029830240775405081032959132287775557357024049538861853184831946111583475677733202943498813497099487572647663006192672501089738389431779394951362035801301331438266201960686674537282157346947210212952594825242000143601193684172725997733969430306339339236103277886665109189359797077308255049965198229669888134369338951853915940823768480372845599727943373217433298310535194370588317487459911
def F251.res:List RV:=[.cell (.of 4) none,.cell (.of 5) none,.cell (.of 6) none]
def F251:Fn:={ params:=[(.of 0),(.of 1),(.of 2)],res:=F251.res,body:=F251.b0,init:=in25 }
theorem F251.ok:fnA Tryz.prog Tryz.f251 [0,1,2,5,6,7,8,9,10,11,13,14,16,17,26,27,28,31,45,48,49,50,51,61,65]=some F251:=by kernel_rfl
abbrev F252.fr:=fr8
def F252.b0:IR:=dI [] 2407741170107250078549936494237630212418700255066713405768343542435761141239863942700667051128993267652701020809200499008039451293915000415197700971511406791560451688510310679784656484614861856676758100918926363935697952570301041137965930437227360467570095617044061302663826535387
def F252.res:List RV:=[]
def F252:Fn:={ params:=[(.of 0),(.of 1),(.of 2),(.of 3)],res:=F252.res,body:=F252.b0,init:=in8 }
theorem F252.ok:fnA Tryz.prog Tryz.f252 [0,1,2,3,8,9,14,34]=some F252:=by kernel_rfl
abbrev F260.fr:=fr7
def F260.b0:IR:=dI [] 426840447250233883098299188716337508567146493522631037192498067
def F260.res:List RV:=[.t (.of 3)]
def F260:Fn:={ params:=[(.of 0),(.of 1)],res:=F260.res,body:=F260.b0,init:=in7 }
theorem F260.ok:fnA Tryz.prog Tryz.f260 [0,1,2,4,5,6,7]=some F260:=by kernel_rfl
abbrev F261.fr:=fr2
def F261.b0:IR:=dI [] 1384924753849612836247
def F261.res:List RV:=[.t (.of 1)]
def F261:Fn:={ params:=[(.of 0)],res:=F261.res,body:=F261.b0,init:=in2 }
theorem F261.ok:fnA Tryz.prog Tryz.f261 [0,2]=some F261:=by kernel_rfl
abbrev F279.fr:=fr7
def F279.b0:IR:=dI [] 20395022746220281651534673202950265014347792625545857204859606985054347887707503991205143942931791733711166871415
def F279.res:List RV:=[.cell (.of 1) (some 2)]
def F279:Fn:={ params:=[(.of 0)],res:=F279.res,body:=F279.b0,init:=in7 }
theorem F279.ok:fnA Tryz.prog Tryz.f279 [0,2,3,4,10,11,12]=some F279:=by kernel_rfl
abbrev F280.fr:=fr5
def F280.b0:IR:=dI [] 98810601830804259953859768190575847419146664914709395
def F280.res:List RV:=[.t (.of 3)]
def F280:Fn:={ params:=[(.of 0),(.of 1)],res:=F280.res,body:=F280.b0,init:=in5 }
theorem F280.ok:fnA Tryz.prog Tryz.f280 [0,1,3,4,6]=some F280:=by kernel_rfl
abbrev F281.fr:=fr12
def F281.b0:IR:=dI [] 22890290348768365160956472520594207469537279659496774253789717105094529220064040867080421057894545609653985852185668067716597089864292807097573322951084428292310484948000351303909029176217023334841551613607069625424533307
def F281.res:List RV:=[.cell (.of 4) (some 2)]
def F281:Fn:={ params:=[(.of 0),(.of 1)],res:=F281.res,body:=F281.b0,init:=in12 }
theorem F281.ok:fnA Tryz.prog Tryz.f281 [0,1,2,3,4,5,6,7,19,20,21,22]=some F281:=by kernel_rfl
abbrev F285.fr:=fr11
def F285.b0:IR:=dI [] 84421976423633073954501109919571694315798223017918267807545875046580791207089808125792421750811440334456293602000819484760784993711072201805706549868138430532942570110480096678339669462548109279068250839457185155388454766452655319260142747477969476802113110611411975284756375
def F285.res:List RV:=[.t (.of 2)]
def F285:Fn:={ params:=[(.of 0),(.of 1)],res:=F285.res,body:=F285.b0,init:=in11 }
theorem F285.ok:fnA Tryz.prog Tryz.f285 [0,1,4,5,6,7,9,11,17,23,34]=some F285:=by kernel_rfl
abbrev F287.fr:=fr3
def F287.b0:IR:=dI [] 531732964907950673130472540182983045980519421251316762753244948824262778263
def F287.res:List RV:=[.t (.of 1)]
def F287:Fn:={ params:=[(.of 0)],res:=F287.res,body:=F287.b0,init:=in3 }
theorem F287.ok:fnA Tryz.prog Tryz.f287 [0,2,4]=some F287:=by kernel_rfl
abbrev F288.fr:=fr3
def F288.b0:IR:=dI [] 60349474247732254332261286403857748311930134107523168791387543
def F288.res:List RV:=[.t (.of 1)]
def F288:Fn:={ params:=[(.of 0)],res:=F288.res,body:=F288.b0,init:=in3 }
theorem F288.ok:fnA Tryz.prog Tryz.f288 [0,2,3]=some F288:=by kernel_rfl
end
end Go.Ev
