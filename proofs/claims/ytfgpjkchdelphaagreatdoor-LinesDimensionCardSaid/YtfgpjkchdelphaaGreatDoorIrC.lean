import Derived.Test.YtfgpjkchdelphaaGreatDoorIrA
import Derived.Test.YtfgpjkchdelphaaGreatDoorEvC
import Derived.Test.YtfgpjkchdelphaaGreatDoorProg
import Derived.KernelRfl
set_option linter.unusedSimpArgs false
set_option linter.unusedVariables false
namespace Go.Ev
open Go Go.Proofs
set_option maxRecDepth 100000
noncomputable section

abbrev uo.fr:=fr29
def uo.t0:IR:=.reg (dA [] 22451522)
def uo.t1:IR:=.reg (dA [] 3299386840321028584)
def uo.t2:IR:=.reg (dA [] 43335924)
def uo.t6:IR:=.reg (dA [] 1628124399348)
def uo.t7:IR:=.reg (dA [] 3551785268107643948784183658368)
def uo.t8:IR:=.reg (dA [] 192882342291156473728969)
def uo.t109:IR:=.seq uo.t0 (.seq (.seq uo.t1 (.cond aT21 (.seq uo.t2 .ret) .skip)) (.seq (.seq uo.t6 (.cond aT22 (.seq uo.t7 (.seq uo.t8 .ret)) .skip)) (.seq (.reg (dA [] 3025647134256519898666949930190100352)) (.seq (.reg (dA [] 107423236404712)) (.seq (.reg (dA [] 24218932)) (.seq (.reg (dA [] 2325316766208994880366900713)) (.seq (.block 0 (.loop (.seq (.seq (.reg (dA [] 516068533236992334281)) (.cond aT23 .skip (.exit 0))) (.block 1 (.reg (dA [] 555370298145074703592)))))) (.seq (.reg (dA [] 9161833793446610753993)) (.seq (.seq (.reg (dA [] 18211604346427955657)) (.block 2 (.loop (.seq (.seq (.reg (dA [] 12085770234)) (.cond aT24 .skip (.exit 2))) (.seq (.block 3 (.seq (.reg (dA [] 323762800276250663385)) (iSr [(iQo 13 (.mv aC0))] (.seq (iSr [(iQo 14 (.mv aC0))] (.block 4 (.loop (.seq (.seq (.reg (dA [] 7674869946228)) (.cond aT25 .skip (.exit 4))) (.seq (.block 5 (.seq (.reg (dA [] 510548625676728983414324515761)) (.seq (.reg (dA [] 72826325036772214033516649262822272)) (.seq (.reg (dA [] 212386572084)) (.seq (.seq (.reg (dA [] 12310047642)) (.cond aT26 (.seq (.reg (dA [] 60907968308)) (.reg (dA [] 854784820))) .skip)) (.reg (dA [] 1040048086813779247337544144))))))) (.reg (dA [] 10299496308))))))) (.seq (.reg ((iSm 9)::((iSm 11)::((iSm 8)::((.s (.bin .add .int aS1 aS0))::((iSm 9)::((iSm 11)::((iSm 8)::((.s (.bin .add .int aS1 aS0))::((.s (.su 1 aS3 aS0))::((.s (.load aS0))::((iSm 13)::((.s (.bin .sub .int aS1 aS0))::((.s (.su 1 aS11 aS8))::((.w .none none (.store 1 aS0 aS1))::[]))))))))))))))) (.seq (.seq (.reg (dA [] 27795323160246643083680208)) (.cond aT27 (.seq (.reg (dA [] 18889374324)) (iSr [(iQo 17 (.mv aC0))] (.seq (iSr [(iQo 18 (.mv aC0))] (.block 6 (.loop (.seq (.seq (.reg (dA [] 7657421636276)) (.cond aT28 .skip (.exit 6))) (.seq (.block 7 (.seq (.nZ [] (((iSm 9)::((iSm 18)::((iSm 11)::((.s (.bin .add .int aS1 aS0))::((.s (.su 1 aS3 aS0))::((.s (.load aS0))::((iSm 7)::((iSm 18)::((.s (.su 1 aS1 aS0))::((.s (.load aS0))::((.s (.bin .add .int aS4 aS0))::((iSm 17)::((.s (.bin .add .int aS1 aS0))::((iQm 19 0)::[])))))))))))))).map λo=>(o,0,[]))) (.seq (.reg (dA [] 4362159404587564828306077033798081)) (.reg (dA [] 9770621970292))))) (.reg (dA [] 44659229364))))))) (.reg ((iSm 9)::((iSm 11)::((iSm 8)::((.s (.bin .add .int aS1 aS0))::((iSm 9)::((iSm 11)::((iSm 8)::((.s (.bin .add .int aS1 aS0))::((.s (.su 1 aS3 aS0))::((.s (.load aS0))::((iSm 17)::((.s (.bin .add .int aS1 aS0))::((.s (.su 1 aS11 aS8))::((.w .none none (.store 1 aS0 aS1))::[])))))))))))))))))) .skip)) (.reg (dA [] 30995821606863867097)))))))) (.reg (dA [] 33921757172))))))) (.seq (.nZ [] [((iSm 9),0,[]),((iSm 8),0,[]),((.s (.slice 1 aS1 none (some aS0) none)),0,[]),((iSm 6),1,[]),((.s (.su 1 aS0 aC0)),1,[]),((.s (.load aS0)),1,[]),((iCa 269 [aS3]),0,[]),((iCa 268 [aS0,aS1]),0,[]),((.s (.mv aS0)),0,[]),((.s (.ext 0 aS0)),0,[]),((.s (.ext 1 aS1)),0,[]),((iQm 20 1),0,[]),((.s (.mv aS0)),0,[])]) (.seq (.reg (dA [] 374959824925805785)) .ret)))))))))))
def uo.b0:IR:=uo.t109
def uo.res:List RV:=[.t (.of 2),.t (.of 3)]
def uo:Fn:={ params:=[(.of 0),(.of 1)],res:=uo.res,body:=uo.b0,init:=in29 }
theorem uo.ok:fnA Tryz.prog Tryz.f213 [0,1,4,5,6,7,8,9,10,11,12,13,14,15,16,17,18,19,20,21,22,27,31,68,83,92,115,145,150]=some uo:=by kernel_rfl
abbrev dx.fr:=fr3
def dx.t0:IR:=.reg (dA [] 207917)
def dx.t1:IR:=.reg (dA [] 4665896692)
def dx.t2:IR:=.reg (dA [] 770601231483969237839513359457971427166129)
def dx.t5:IR:=.seq dx.t0 (.seq dx.t1 (.seq dx.t2 .ret))
def dx.b0:IR:=dx.t5
def dx.res:List RV:=[.cell (.of 2) (some 2)]
def dx:Fn:={ params:=[(.of 0),(.of 1)],res:=dx.res,body:=dx.b0,init:=in3 }
theorem dx.ok:fnA Tryz.prog Tryz.f214 [0,1,4]=some dx:=by kernel_rfl
abbrev zy.fr:=fr9
def zy.t0:IR:=.reg [iQo 2 (.mv aC0)]
def zy.t1:IR:=.reg (dA [] 130321235514329)
def zy.t2:IR:=.reg (dA [] 139392206443481)
def zy.t3:IR:=.reg [iQo 2 (.mv (.c (I (-1))))]
def zy.t7:IR:=.reg [iQo 2 (.mv aC1)]
def zy.t12:IR:=.reg (dA [] 89063786984)
def zy.t13:IR:=.reg (dA [] 94520858)
def zy.t16:IR:=dI [] 8307274157895709094035370816935423090
def zy.t17:IR:=.reg [iQo 2 (.mv (.c (I (-1))))]
def zy.t21:IR:=dI [] 33214762753106484531437009602706795634
def zy.t22:IR:=.reg [iQo 2 (.mv aC1)]
def zy.t28:IR:=.reg (dA [] 347905076)
def zy.t30:IR:=.seq (.seq zy.t13 (.cond aT6 .skip (.exit 0))) (.seq (.block 1 (.seq (.seq zy.t16 (.cond aT7 (.seq zy.t17 .ret) .skip)) (.seq zy.t21 (.cond aT8 (.seq zy.t22 .ret) .skip)))) zy.t28)
def zy.t31:IR:=.loop zy.t30
def zy.t34:IR:=.reg [iQo 2 (.mv aC0)]
def zy.t38:IR:=.seq zy.t0 (.seq (.seq zy.t1 (.cond aT4 (.seq (.seq zy.t2 (.cond aT5 (.seq zy.t3 .ret) .skip)) (.seq zy.t7 .ret)) .skip)) (.seq (.seq zy.t12 (.block 0 zy.t31)) (.seq zy.t34 .ret)))
def zy.b0:IR:=zy.t38
def zy.res:List RV:=[.t (.of 2)]
def zy:Fn:={ params:=[(.of 0),(.of 1)],res:=zy.res,body:=zy.b0,init:=in9 }
theorem zy.ok:fnA Tryz.prog Tryz.f216 [0,1,4,5,10,15,20,31,40]=some zy:=by kernel_rfl
abbrev F219.fr:=fr9
def F219.b0:IR:=dI [] 12225547715940642878267355504451418332744233398923073112182981918537654764289316468010898967
def F219.res:List RV:=[.t (.of 2)]
def F219:Fn:={ params:=[(.of 0),(.of 1)],res:=F219.res,body:=F219.b0,init:=in9 }
theorem F219.ok:fnA Tryz.prog Tryz.f219 [0,1,4,5,7,8,9,10,11]=some F219:=by kernel_rfl
abbrev F220.fr:=fr3
def F220.b0:IR:=dI [] 3632996236303857376028987
def F220.res:List RV:=[.t (.of 2)]
def F220:Fn:={ params:=[(.of 0)],res:=F220.res,body:=F220.b0,init:=in3 }
theorem F220.ok:fnA Tryz.prog Tryz.f220 [0,1,2]=some F220:=by kernel_rfl
abbrev F221.fr:=fr3
def F221.b0:IR:=dI [] 58179449611466055306438971
def F221.res:List RV:=[.t (.of 2)]
def F221:Fn:={ params:=[(.of 0)],res:=F221.res,body:=F221.b0,init:=in3 }
theorem F221.ok:fnA Tryz.prog Tryz.f221 [0,1,2]=some F221:=by kernel_rfl
abbrev F222.fr:=fr3
def F222.b0:IR:=dI [] 29031232791763528930552123
def F222.res:List RV:=[.t (.of 2)]
def F222:Fn:={ params:=[(.of 0)],res:=F222.res,body:=F222.b0,init:=in3 }
theorem F222.ok:fnA Tryz.prog Tryz.f222 [0,1,2]=some F222:=by kernel_rfl
abbrev F223.fr:=fr3
def F223.b0:IR:=dI [] 58320530310141785957198139
def F223.res:List RV:=[.t (.of 2)]
def F223:Fn:={ params:=[(.of 0)],res:=F223.res,body:=F223.b0,init:=in3 }
theorem F223.ok:fnA Tryz.prog Tryz.f223 [0,1,2]=some F223:=by kernel_rfl
abbrev F224.fr:=fr3
def F224.b0:IR:=dI [] 21293675547026440692922287508823072837352212811409061096832396367185045819
def F224.res:List RV:=[.t (.of 2)]
def F224:Fn:={ params:=[(.of 0)],res:=F224.res,body:=F224.b0,init:=in3 }
theorem F224.ok:fnA Tryz.prog Tryz.f224 [0,1,2]=some F224:=by kernel_rfl
abbrev F225.fr:=fr6
def F225.b0:IR:=dI [] 1526156731138961581116322296536719815691720213133537581867742568923508084275584685195649110114550190812222806037537580218955428507627308124834868188110625761816611826914715494715
def F225.res:List RV:=[.t (.of 2)]
def F225:Fn:={ params:=[(.of 0)],res:=F225.res,body:=F225.b0,init:=in6 }
theorem F225.ok:fnA Tryz.prog Tryz.f225 [0,1,2,3,4,13]=some F225:=by kernel_rfl
abbrev F226.fr:=fr6
def F226.b0:IR:=dI [] 7385484289542475340320781352524700406973180330437269369019909973145028189806626638604074131145543144016439611
def F226.res:List RV:=[.t (.of 2)]
def F226:Fn:={ params:=[(.of 0)],res:=F226.res,body:=F226.b0,init:=in6 }
theorem F226.ok:fnA Tryz.prog Tryz.f226 [0,1,2,5,8,13]=some F226:=by kernel_rfl
abbrev F227.fr:=fr3
def F227.b0:IR:=dI [] 4403434315304226168845262198251354426710331484475
def F227.res:List RV:=[.t (.of 2)]
def F227:Fn:={ params:=[(.of 0)],res:=F227.res,body:=F227.b0,init:=in3 }
theorem F227.ok:fnA Tryz.prog Tryz.f227 [0,1,2]=some F227:=by kernel_rfl
abbrev F228.fr:=fr8
def F228.b0:IR:=dI [] 5050084064952537411602047493941404187601389703170067663309208956583335886656300092210028048578133256718782035964155054702651985961733360599764064181410107
def F228.res:List RV:=[.cell (.of 3) (some 2)]
def F228:Fn:={ params:=[(.of 0),(.of 1)],res:=F228.res,body:=F228.b0,init:=in8 }
theorem F228.ok:fnA Tryz.prog Tryz.f228 [0,1,2,4,5,8,13,18]=some F228:=by kernel_rfl
abbrev F229.fr:=fr8
def F229.b0:IR:=dI [] 2449550547456803182297192973151874062633119700211264299671710440603469849649033812300012670048050495450840360558463701133848974887571356477242716787
def F229.res:List RV:=[.t (.of 4)]
def F229:Fn:={ params:=[(.of 0),(.of 1)],res:=F229.res,body:=F229.b0,init:=in8 }
theorem F229.ok:fnA Tryz.prog Tryz.f229 [0,1,2,3,4,12,13,19]=some F229:=by kernel_rfl
abbrev F234.fr:=fr8
def F234.b0:IR:=dI [] 6576949831875895346708586010545097122163659830917466290435690256426569364008484873917975
def F234.res:List RV:=[.t (.of 2)]
def F234:Fn:={ params:=[(.of 0),(.of 1)],res:=F234.res,body:=F234.b0,init:=in8 }
theorem F234.ok:fnA Tryz.prog Tryz.f234 [0,1,4,5,7,8,9,16]=some F234:=by kernel_rfl
abbrev F235.fr:=fr15
def F235.b0:IR:=dI [] 923916570047803474061408153543061898463545804221831937302788410881332354238366262471516640622656174357569462337520955354039292617594155752059782369450010603648992016489868852347059391343546213519501463
def F235.res:List RV:=[.t (.of 1)]
def F235:Fn:={ params:=[(.of 0)],res:=F235.res,body:=F235.b0,init:=in15 }
theorem F235.ok:fnA Tryz.prog Tryz.f235 [0,2,3,5,6,8,9,10,11,12,20,25,26,27,28]=some F235:=by kernel_rfl
abbrev F236.fr:=fr5
def F236.b0:IR:=dI [] 993960732148147038708448648213107
def F236.res:List RV:=[.t (.of 4)]
def F236:Fn:={ params:=[(.of 0),(.of 1)],res:=F236.res,body:=F236.b0,init:=in5 }
theorem F236.ok:fnA Tryz.prog Tryz.f236 [0,1,2,3,4]=some F236:=by kernel_rfl
abbrev F237.fr:=fr8
def F237.b0:IR:=dI [] 58021508873996853469446819214270814854024275838806659562367152952206777152687705684923527267055195924512991344791
def F237.res:List RV:=[.t (.of 1)]
def F237:Fn:={ params:=[(.of 0)],res:=F237.res,body:=F237.b0,init:=in8 }
theorem F237.ok:fnA Tryz.prog Tryz.f237 [0,2,3,5,6,7,8,9]=some F237:=by kernel_rfl
abbrev F238.fr:=fr4
def F238.b0:IR:=dI [] 3819616205519772234002071
def F238.res:List RV:=[.t (.of 3)]
def F238:Fn:={ params:=[(.of 0),(.of 1),(.of 2)],res:=F238.res,body:=F238.b0,init:=in4 }
theorem F238.ok:fnA Tryz.prog Tryz.f238 [0,1,2,4]=some F238:=by kernel_rfl
abbrev F239.fr:=fr4
def F239.b0:IR:=dI [] 3819617701142966566104727
def F239.res:List RV:=[.t (.of 3)]
def F239:Fn:={ params:=[(.of 0),(.of 1),(.of 2)],res:=F239.res,body:=F239.b0,init:=in4 }
theorem F239.ok:fnA Tryz.prog Tryz.f239 [0,1,2,4]=some F239:=by kernel_rfl
abbrev F242.fr:=fr2
def F242.b0:IR:=dI [] 55652567597901064343
def F242.res:List RV:=[.t (.of 1)]
def F242:Fn:={ params:=[(.of 0)],res:=F242.res,body:=F242.b0,init:=in2 }
theorem F242.ok:fnA Tryz.prog Tryz.f242 [0,2]=some F242:=by kernel_rfl
abbrev F243.fr:=fr2
def F243.b0:IR:=dI [] 36366696186860235195882938087063622611
def F243.res:List RV:=[]
def F243:Fn:={ params:=[(.of 0)],res:=F243.res,body:=F243.b0,init:=in2 }
theorem F243.ok:fnA Tryz.prog Tryz.f243 [0,2]=some F243:=by kernel_rfl
abbrev F244.fr:=fr8
def F244.b0:IR:=dI [] 158090858008791804530654857029840734143562548056241375041301550435813776563
def F244.res:List RV:=[]
def F244:Fn:={ params:=[(.of 0),(.of 1)],res:=F244.res,body:=F244.b0,init:=in8 }
theorem F244.ok:fnA Tryz.prog Tryz.f244 [0,1,4,5,6,7,8,14]=some F244:=by kernel_rfl
abbrev qy.fr:=fr8
def qy.b3:IR:=dI [] 287565595511590687544877904647364684187717564317433980077991031
def qy.b2:IR:=(.loop qy.b3)
def qy.g1 (X2:IR):IR:=(.block 0 X2)
def qy.b1:IR:=qy.g1 qy.b2
def qy.b8:IR:=dI [] 3466775
def qy.b0:IR:=dI [qy.b1,qy.b8] 103675937821527856663
def qy.res:List RV:=[.t (.of 2)]
def qy:Fn:={ params:=[(.of 0),(.of 1)],res:=qy.res,body:=qy.b0,init:=in8 }
theorem qy.ok:fnA Tryz.prog Tryz.f245 [0,1,4,5,7,8,9,16]=some qy:=by kernel_rfl
abbrev ul.fr:=fr3
def ul.t0:IR:=.reg (dA [] 222362190)
def ul.zd5 (r:List RO):List RO:=dA r 512935489202342448416121080
def ul.r1_3:List RO:=ul.zd5 []
def ul.zd4 (r:List RO):List RO:=dA r 363279060701
def ul.r1_2:List RO:=ul.zd4 ul.r1_3
def ul.fZ (r:List RO):List RO:=dA r 12981448508180922044998520
def ul.rO:List RO:=ul.fZ ul.r1_2
def ul.fV (r:List RO):List RO:=dA r 11936849590
def ul.nR:List RO:=ul.fV ul.rO
def ul.t1:IR:=.reg ul.nR
def ul.t3:IR:=.seq ul.t0 (.seq ul.t1 .ret)
def ul.b0:IR:=ul.t3
def ul.res:List RV:=[.t (.of 2)]
def ul:Fn:={ params:=[(.of 0)],res:=ul.res,body:=ul.b0,init:=in3 }
theorem ul.ok:fnA Tryz.prog Tryz.f246 [0,1,2]=some ul:=by kernel_rfl
abbrev jd.fr:=fr8
def jd.t0:IR:=.reg [iQo 2 (.mv aC0)]
def jd.t1:IR:=.reg (dA [] 1568984308)
def jd.t2:IR:=.reg (dA [] 65534237)
def jd.t4:IR:=.reg (dA [] 20730)
def jd.t5:IR:=.reg (dA [] 9190782355511569353)
def jd.t6:IR:=.reg (dA [] 26)
def jd.t12:IR:=.reg (dA [] 46911326)
def jd.t15:IR:=.seq jd.t2 (.seq (.cond aT6 .skip (.exit 0)) (.seq (.block 1 (.seq jd.t4 (.seq jd.t5 (.cond aT7 (.seq jd.t6 .ret) .skip)))) jd.t12))
def jd.t16:IR:=.loop jd.t15
def jd.t19:IR:=.reg [iQo 2 (.mv (.c (I (-1))))]
def jd.t22:IR:=.seq jd.t0 (.seq (.seq jd.t1 (.block 0 jd.t16)) (.seq jd.t19 .ret))
def jd.b0:IR:=jd.t22
def jd.res:List RV:=[.t (.of 2)]
def jd:Fn:={ params:=[(.of 0),(.of 1)],res:=jd.res,body:=jd.b0,init:=in8 }
theorem jd.ok:fnA Tryz.prog Tryz.f247 [0,1,4,5,7,8,9,16]=some jd:=by kernel_rfl
abbrev cB.fr:=fr2
def cB.t0:IR:=.reg [iQo 1 (.mv (.c (.str [])))]
def cB.t1:IR:=.reg (dA [] 4668255476)
def cB.t3:IR:=.seq cB.t0 (.seq cB.t1 .ret)
def cB.b0:IR:=cB.t3
def cB.res:List RV:=[.t (.of 1)]
def cB:Fn:={ params:=[(.of 0)],res:=cB.res,body:=cB.b0,init:=in2 }
theorem cB.ok:fnA Tryz.prog Tryz.f248 [0,2]=some cB:=by kernel_rfl
abbrev qd.fr:=fr6
def qd.t0:IR:=.reg (dA [] 1471471023260)
def qd.t1:IR:=.reg (dA [] 76237177339736)
def qd.t4:IR:=.reg (dA [] 1524058021208)
def qd.t5:IR:=.reg (dA [] 11226434)
def qd.t12:IR:=dI [] 72219079508959873220483965750818483641260006514
def qd.t15:IR:=.seq qd.t0 (.seq (.block 0 (.seq qd.t1 (.cond aT4 (.seq (.nZ [] [(.s (.aW 0 aT1),0,[]),(.s (.load aS0),0,[]),(.s (.bin .lss .int aS0 aC0),0,[]),(.s (.aW 1 aT1),0,[]),(.s (.load aS0),0,[]),(iQm 2 2,0,[]),(iQm 3 0,0,[])]) .ret) (.seq qd.t4 (.cond aT5 (.seq qd.t5 .ret) .skip))))) (.seq qd.t12 .ret))
def qd.b0:IR:=qd.t15
def qd.res:List RV:=[.t (.of 2),.t (.of 3)]
def qd:Fn:={ params:=[(.of 0)],res:=qd.res,body:=qd.b0,init:=in6 }
theorem qd.ok:fnA Tryz.prog Tryz.f249 [0,1,2,3,4,13]=some qd:=by kernel_rfl
abbrev uf.fr:=fr7
def uf.t0:IR:=.reg (dA [] 501771845364892)
def uf.t1:IR:=dI [] 524977171924358339223330891577508154403442
def uf.t2:IR:=.reg (dA [] 12791947546266988)
def uf.t5:IR:=.reg (dA [] 2307636973315916910862491295012190511983424)
def uf.t6:IR:=dI [] 116568348734606070669293106
def uf.t9:IR:=.seq (.seq uf.t2 (.cond aT6 .skip (.exit 0))) (.block 1 (.seq uf.t5 uf.t6))
def uf.t10:IR:=.loop uf.t9
def uf.t12:IR:=.reg (dA [] 2126825142)
def uf.t16:IR:=.seq uf.t0 (.seq uf.t1 (.seq (.block 0 uf.t10) (.seq uf.t12 .ret)))
def uf.b0:IR:=uf.t16
def uf.res:List RV:=[.cell (.of 4) (some 2)]
def uf:Fn:={ params:=[(.of 0),(.of 1)],res:=uf.res,body:=uf.b0,init:=in7 }
theorem uf.ok:fnA Tryz.prog Tryz.f258 [0,1,2,3,4,6,13]=some uf:=by kernel_rfl
abbrev kz.fr:=fr7
def kz.t0:IR:=.reg (dA [] 501771845364892)
def kz.t1:IR:=.reg (dA [] 6458760570277228)
def kz.t2:IR:=dI [] 524977171924358323205063542992891338910322
def kz.t5:IR:=.reg (dA [] 2325196262063014299759944128355171818040128)
def kz.t6:IR:=.reg (dA [] 4253630134)
def kz.t8:IR:=.seq kz.t5 (.seq kz.t6 .ret)
def kz.t10:IR:=.seq kz.t0 (.seq (.seq kz.t1 (.cond aT6 kz.t2 .skip)) kz.t8)
def kz.b0:IR:=kz.t10
def kz.res:List RV:=[.cell (.of 4) (some 2)]
def kz:Fn:={ params:=[(.of 0),(.of 1)],res:=kz.res,body:=kz.b0,init:=in7 }
theorem kz.ok:fnA Tryz.prog Tryz.f259 [0,1,2,3,4,5,9]=some kz:=by kernel_rfl
abbrev jb.fr:=fr12
def jb.t0:IR:=.reg (dA [] 6524863682)
def jb.t1:IR:=.reg (dA [] 70100557044)
def jb.t2:IR:=.reg (dA [] 192727063796)
def jb.t3:IR:=.reg (dA [] 310618726132)
def jb.t4:IR:=.reg (dA [] 106827718388)
def jb.t5:IR:=.reg (dA [] 793838184424)
def jb.t6:IR:=.reg (dA [] 18141851593569648349726672)
def jb.t7:IR:=.reg (dA [] 4266131879540)
def jb.t8:IR:=.reg (dA [] 4344321046132)
def jb.t9:IR:=.reg (dA [] 8950547269931732169)
def jb.t10:IR:=.reg (dA [] 33404692599880954953633206193)
def jb.t11:IR:=.reg (dA [] 43840893416)
def jb.t23:IR:=.seq jb.t0 (.seq jb.t1 (.seq jb.t2 (.seq jb.t3 (.seq jb.t4 (.seq jb.t5 (.seq jb.t6 (.seq jb.t7 (.seq jb.t8 (.seq jb.t9 (.seq jb.t10 (.seq jb.t11 .ret)))))))))))
def jb.b0:IR:=jb.t23
def jb.res:List RV:=[.t (.of 2),.t (.of 3)]
def jb:Fn:={ params:=[(.of 0),(.of 1)],res:=jb.res,body:=jb.b0,init:=in12 }
theorem jb.ok:fnA Tryz.prog Tryz.f263 [0,1,4,5,6,7,8,9,10,11,12,13]=some jb:=by kernel_rfl
abbrev xh.fr:=fr3
def xh.t0:IR:=.reg (dA [] 796197)
def xh.t1:IR:=.reg (dA [] 11994746)
def xh.t2:IR:=.reg (dA [] 76701403624)
def xh.t6:IR:=.reg (dA [] 18726132)
def xh.t9:IR:=.seq xh.t0 (.seq (.seq xh.t1 (.cond aT2 (.seq xh.t2 .ret) .skip)) (.seq xh.t6 .ret))
def xh.b0:IR:=xh.t9
def xh.res:List RV:=[.t (.of 1)]
def xh:Fn:={ params:=[(.of 0)],res:=xh.res,body:=xh.b0,init:=in3 }
theorem xh.ok:fnA Tryz.prog Tryz.f264 [0,2,4]=some xh:=by kernel_rfl
abbrev jc.fr:=fr5
def jc.t0:IR:=.reg (dA [] 27173)
def jc.t1:IR:=.reg [iQo 2 (.mv aC0)]
def jc.t2:IR:=.reg (dA [] 1087077938280)
def jc.zsl (r:List RO):List RO:=dA r 168862770656631142
def jc.r3_1:List RO:=jc.zsl []
def jc.zsk (r:List RO):List RO:=dA r 1062612930298446548308313831662529
def jc.r3_0:List RO:=jc.zsk jc.r3_1
def jc.t5:IR:=.reg jc.r3_0
def jc.t11:IR:=.reg (dA [] 6184500)
def jc.t13:IR:=.seq (.seq jc.t2 (.cond aT3 .skip (.exit 0))) (.seq (.block 1 (.seq jc.t5 (.cond aT4 (.seq (.reg (dA [] 27173)) .ret) .skip))) jc.t11)
def jc.t14:IR:=.loop jc.t13
def jc.t17:IR:=.reg (dA [] 18981)
def jc.t20:IR:=.seq jc.t0 (.seq (.seq jc.t1 (.block 0 jc.t14)) (.seq jc.t17 .ret))
def jc.b0:IR:=jc.t20
def jc.res:List RV:=[.t (.of 1)]
def jc:Fn:={ params:=[(.of 0)],res:=jc.res,body:=jc.b0,init:=in5 }
theorem jc.ok:fnA Tryz.prog Tryz.f267 [0,2,3,7,19]=some jc:=by kernel_rfl
abbrev yw.fr:=fr9
def yw.t0:IR:=.reg (dA [] 3052866)
def yw.t1:IR:=.reg (dA [] 35914453453288)
def yw.t2:IR:=.reg [iQo 5 (.mv aC0)]
def yw.t3:IR:=.reg (dA [] 157783263720)
def yw.t4:IR:=.reg (dA [] 378244186)
def yw.t7:IR:=.reg (dA [] 14656731047947597993535425)
def yw.t8:IR:=.reg (dA [] 32501013977762067522965456)
def yw.t9:IR:=.reg (dA [] 381702498920)
def yw.t13:IR:=.reg (dA [] 1232681140)
def yw.t15:IR:=.seq (.seq yw.t4 (.cond aT8 .skip (.exit 0))) (.seq (.block 1 (.seq yw.t7 (.seq yw.t8 yw.t9))) yw.t13)
def yw.t16:IR:=.loop yw.t15
def yw.t19:IR:=.reg (dA [] 11716931448958937)
def yw.t24:IR:=.seq yw.t0 (.seq yw.t1 (.seq yw.t2 (.seq (.seq yw.t3 (.block 0 yw.t16)) (.seq yw.t19 .ret))))
def yw.b0:IR:=yw.t24
def yw.res:List RV:=[.t (.of 2),.t (.of 3)]
def yw:Fn:={ params:=[(.of 0),(.of 1)],res:=yw.res,body:=yw.b0,init:=in9 }
theorem yw.ok:fnA Tryz.prog Tryz.f268 [0,1,4,5,6,7,8,9,17]=some yw:=by kernel_rfl
abbrev jq.fr:=fr3
def jq.t0:IR:=.reg [iQo 1 (.mv (.c .zb))]
def jq.fZ (r:List RO):List RO:=dA r 4228434656796991192731630943480
def jq.rO:List RO:=jq.fZ []
def jq.fV (r:List RO):List RO:=dA r 3825426765816011892140352313430977
def jq.nR:List RO:=jq.fV jq.rO
def jq.t1:IR:=.reg jq.nR
def jq.t4:IR:=.reg (dA [] 942638990711597949897)
def jq.t6:IR:=.seq (.seq jq.t1 (.cond aT2 .skip (.exit 0))) (.block 1 jq.t4)
def jq.t7:IR:=.loop jq.t6
def jq.t9:IR:=.reg (dA [] 2170)
def jq.t12:IR:=.seq jq.t0 (.seq (.block 0 jq.t7) (.seq jq.t9 .ret))
def jq.b0:IR:=jq.t12
def jq.res:List RV:=[.t (.of 1)]
def jq:Fn:={ params:=[(.of 0)],res:=jq.res,body:=jq.b0,init:=in3 }
theorem jq.ok:fnA Tryz.prog Tryz.f269 [0,2,14]=some jq:=by kernel_rfl
abbrev F272.fr:=fr8
def F272.b0:IR:=dI [] 781968526366545539574136952167554606522124377300270308645837721758756896827656461281815
def F272.res:List RV:=[.t (.of 2)]
def F272:Fn:={ params:=[(.of 0),(.of 1)],res:=F272.res,body:=F272.b0,init:=in8 }
theorem F272.ok:fnA Tryz.prog Tryz.f272 [0,1,4,5,6,7,8,15]=some F272:=by kernel_rfl
abbrev F273.fr:=fr3
def F273.b0:IR:=dI [] 763617269934692903495979729208269848387152117966681674188744435223000077847
def F273.res:List RV:=[.t (.of 2)]
def F273:Fn:={ params:=[(.of 0),(.of 1)],res:=F273.res,body:=F273.b0,init:=in3 }
theorem F273.ok:fnA Tryz.prog Tryz.f273 [0,1,3]=some F273:=by kernel_rfl
abbrev F274.fr:=fr4
def F274.b0:IR:=dI [] 786303375787261003411902735293548120730353628087896432788465432538058498682519
def F274.res:List RV:=[.t (.of 3)]
def F274:Fn:={ params:=[(.of 0),(.of 1),(.of 2)],res:=F274.res,body:=F274.b0,init:=in4 }
theorem F274.ok:fnA Tryz.prog Tryz.f274 [0,1,2,5]=some F274:=by kernel_rfl
abbrev F275.fr:=fr6
def F275.b0:IR:=dI [] 991418982503127224229178033254519623262137818515431092201919908890214258865458773293102787079845453445670480468435980610064070720746665520200469061461761402246867482003390561002242929117721439895
def F275.res:List RV:=[.t (.of 3)]
def F275:Fn:={ params:=[(.of 0),(.of 1),(.of 2)],res:=F275.res,body:=F275.b0,init:=in6 }
theorem F275.ok:fnA Tryz.prog Tryz.f275 [0,1,2,4,5,6]=some F275:=by kernel_rfl
abbrev F276.fr:=fr6
def F276.b0:IR:=dI [] 2649829673977571820861784070094669723138093001782940386049579411779191935324297749172112782532603995473635026922497703668537460476399332744670871
def F276.res:List RV:=[.t (.of 3)]
def F276:Fn:={ params:=[(.of 0),(.of 1),(.of 2)],res:=F276.res,body:=F276.b0,init:=in6 }
theorem F276.ok:fnA Tryz.prog Tryz.f276 [0,1,2,4,5,6]=some F276:=by kernel_rfl
abbrev F277.fr:=fr6
def F277.b0:IR:=dI [] 19488561673538122997665744122613655104654901684229482791988216069801945067132945401766015624044820197389818287285530746500916943457846092459998519320575169830530209411405632328126441830390476019323227194712036325200550336210217986363
def F277.res:List RV:=[.cell (.of 2) (some 2)]
def F277:Fn:={ params:=[(.of 0)],res:=F277.res,body:=F277.b0,init:=in6 }
theorem F277.ok:fnA Tryz.prog Tryz.f277 [0,1,2,3,4,13]=some F277:=by kernel_rfl
abbrev F278.fr:=fr5
def F278.b0:IR:=dI [] 27556352967737687471760433015428677846725843899607039913993429674420273524789196953414801414580819009055255
def F278.res:List RV:=[.t (.of 2)]
def F278:Fn:={ params:=[(.of 0),(.of 1)],res:=F278.res,body:=F278.b0,init:=in5 }
theorem F278.ok:fnA Tryz.prog Tryz.f278 [0,1,4,6,16]=some F278:=by kernel_rfl
abbrev F279.fr:=fr8
def F279.b0:IR:=dI [] 13133674646434311927651502984836848717626239237936321353427864561757840362565177435316978308211162953045986907
def F279.res:List RV:=[]
def F279:Fn:={ params:=[(.of 0),(.of 1),(.of 2)],res:=F279.res,body:=F279.b0,init:=in8 }
theorem F279.ok:fnA Tryz.prog Tryz.f279 [0,1,2,4,5,6,7,15]=some F279:=by kernel_rfl
abbrev F280.fr:=fr5
def F280.b0:IR:=dI [] 3134319424961755474597595802682187600026395967602857791127943271876908739636503
def F280.res:List RV:=[.t (.of 4)]
def F280:Fn:={ params:=[(.of 0),(.of 1),(.of 2),(.of 3)],res:=F280.res,body:=F280.b0,init:=in5 }
theorem F280.ok:fnA Tryz.prog Tryz.f280 [0,1,2,3,5]=some F280:=by kernel_rfl
abbrev F282.fr:=fr7
def F282.b0:IR:=dI [] 10401702552621874406819650188926949994983910755243390420901943611
def F282.res:List RV:=[.t (.of 3)]
def F282:Fn:={ params:=[(.of 0),(.of 1)],res:=F282.res,body:=F282.b0,init:=in7 }
theorem F282.ok:fnA Tryz.prog Tryz.f282 [0,1,2,4,5,6,7]=some F282:=by kernel_rfl
abbrev F283.fr:=fr23
def F283.b0:IR:=dI [] 15300419055005951182734911701823354621881580790599915875297677085890855555557897156054213300328171025059607477771988902038853870419848856513864298076982543514192775109306079352084726863709351165602909737448496936565639546821829204333969165862597730039974579479336346469681469324317947484195849023403372999529388636586212170302704084123585982564506229179838460454080082722287990621215521095611673584059790226951151366922171114366037163734757659932958912494800111752987174464848389109720536024852355749607403232347548969906277121469924769754591928074182168201569085350376974412675294263356623463473600436768866519929575560348363908556166423
def F283.res:List RV:=[]
def F283:Fn:={ params:=[(.of 0),(.of 1),(.of 2),(.of 3)],res:=F283.res,body:=F283.b0,init:=in23 }
theorem F283.ok:fnA Tryz.prog Tryz.f283 [0,1,2,3,8,9,10,11,12,13,14,15,16,17,18,23,29,35,50,68,72,87,113]=some F283:=by kernel_rfl
abbrev F284.fr:=fr2
def F284.b0:IR:=dI [] 256657544403261846482174100772858714263
def F284.res:List RV:=[.t (.of 1)]
def F284:Fn:={ params:=[(.of 0)],res:=F284.res,body:=F284.b0,init:=in2 }
theorem F284.ok:fnA Tryz.prog Tryz.f284 [0,2]=some F284:=by kernel_rfl
abbrev jv.fr:=fr5
def jv.t0:IR:=.reg (dA [] 46201422)
def jv.t1:IR:=.reg (dA [] 64468774910164118468016)
def jv.t2:IR:=.reg (dA [] 12222645300)
def jv.t3:IR:=.reg [iQo 2 (.mv aC0)]
def jv.zd3 (r:List RO):List RO:=dA r 97118
def jv.r4_2:List RO:=jv.zd3 []
def jv.zd2 (r:List RO):List RO:=dA r 3084822408972
def jv.r4_1:List RO:=jv.zd2 jv.r4_2
def jv.zd1 (r:List RO):List RO:=dA r 933978035626577638776416964801
def jv.r4_0:List RO:=jv.zd1 jv.r4_1
def jv.t7:IR:=.reg jv.r4_0
def jv.t11:IR:=.seq jv.t0 (.seq jv.t1 (.seq (.seq jv.t2 (.cond aT4 (.seq jv.t3 .ret) .skip)) (.seq jv.t7 .ret)))
def jv.b0:IR:=jv.t11
def jv.res:List RV:=[.t (.of 2)]
def jv:Fn:={ params:=[(.of 0)],res:=jv.res,body:=jv.b0,init:=in5 }
theorem jv.ok:fnA Tryz.prog Tryz.f285 [0,1,2,4,12]=some jv:=by kernel_rfl
abbrev F286.fr:=fr3
def F286.b0:IR:=dI [] 1774822728037455363607
def F286.res:List RV:=[.t (.of 2)]
def F286:Fn:={ params:=[(.of 0),(.of 1)],res:=F286.res,body:=F286.b0,init:=in3 }
theorem F286.ok:fnA Tryz.prog Tryz.f286 [0,1,4]=some F286:=by kernel_rfl
abbrev cu.fr:=fr2
def cu.t0:IR:=.reg [iQo 1 (.mv (.c (.str [])))]
def cu.t1:IR:=.reg (dA [] 2336100838644)
def cu.t3:IR:=.seq cu.t0 (.seq cu.t1 .ret)
def cu.b0:IR:=cu.t3
def cu.res:List RV:=[.t (.of 1)]
def cu:Fn:={ params:=[(.of 0)],res:=cu.res,body:=cu.b0,init:=in2 }
theorem cu.ok:fnA Tryz.prog Tryz.f287 [0,2]=some cu:=by kernel_rfl
abbrev xw.fr:=fr4
def xw.t0:IR:=.reg (dA [] 907344462)
def xw.t1:IR:=.reg (dA [] 49295126188)
def xw.t2:IR:=.reg (dA [] 2489935902522732)
def xw.t6:IR:=.reg (dA [] 1187307190)
def xw.t9:IR:=.seq xw.t0 (.seq (.seq xw.t1 (.cond aT3 (.seq xw.t2 .ret) .skip)) (.seq xw.t6 .ret))
def xw.b0:IR:=xw.t9
def xw.res:List RV:=[.cell (.of 2) (some 2)]
def xw:Fn:={ params:=[(.of 0)],res:=xw.res,body:=xw.b0,init:=in4 }
theorem xw.ok:fnA Tryz.prog Tryz.f299 [0,1,2,5]=some xw:=by kernel_rfl
abbrev F302.fr:=fr7
def F302.b0:IR:=dI [] 163247339167536672070459156547408365925358517535673319583103558362464203977313521632449393729440905151602170926871547430349969603569495311309219803923095726830657424119871161728218890170745046272669883795619184011404752909913648412452896594385488319822958127840211
def F302.res:List RV:=[]
def F302:Fn:={ params:=[(.of 0),(.of 1),(.of 2)],res:=F302.res,body:=F302.b0,init:=in7 }
theorem F302.ok:fnA Tryz.prog Tryz.f302 [0,1,2,6,7,12,30]=some F302:=by kernel_rfl
abbrev F308.fr:=fr3
def F308.b0:IR:=dI [] 2529419543330281964410968554952790969732210964520252330026356304407
def F308.res:List RV:=[.t (.of 2)]
def F308:Fn:={ params:=[(.of 0),(.of 1)],res:=F308.res,body:=F308.b0,init:=in3 }
theorem F308.ok:fnA Tryz.prog Tryz.f308 [0,1,4]=some F308:=by kernel_rfl
abbrev F311.fr:=fr4
def F311.b0:IR:=dI [] 110696787306114921113009567175000314970817781071262011746931187740204298691067562829321437706886004820760727
def F311.res:List RV:=[.t (.of 1)]
def F311:Fn:={ params:=[(.of 0)],res:=F311.res,body:=F311.b0,init:=in4 }
theorem F311.ok:fnA Tryz.prog Tryz.f311 [0,2,4,8]=some F311:=by kernel_rfl
abbrev yh.fr:=fr5
def yh.t0:IR:=.reg [iQo 1 (.mv aC0)]
def yh.t1:IR:=.reg (dA [] 5543298682)
def yh.t2:IR:=.reg (dA [] 879921831156)
def yh.t3:IR:=.reg [iQo 1 (.mv aC32)]
def yh.t7:IR:=.reg (dA [] 28266546810)
def yh.t8:IR:=.reg (dA [] 1760440458484)
def yh.t9:IR:=.reg (dA [] 589979380)
def yh.t13:IR:=.reg (dA [] 19676563066)
def yh.t14:IR:=.reg (dA [] 1752655830260)
def yh.t15:IR:=.reg (dA [] 544628468)
def yh.t19:IR:=.reg (dA [] 1283731326141481059216336)
def yh.t20:IR:=.seq yh.t19 .ret
def yh.t21:IR:=.seq (.seq yh.t13 (.cond aT4 (.seq yh.t14 yh.t15) .skip)) yh.t20
def yh.t22:IR:=.seq (.seq yh.t7 (.cond aT3 (.seq yh.t8 yh.t9) .skip)) yh.t21
def yh.t24:IR:=.seq yh.t0 (.seq (.seq yh.t1 (.cond aT2 (.seq yh.t2 yh.t3) .skip)) yh.t22)
def yh.b0:IR:=yh.t24
def yh.res:List RV:=[.t (.of 1)]
def yh:Fn:={ params:=[(.of 0)],res:=yh.res,body:=yh.b0,init:=in5 }
theorem yh.ok:fnA Tryz.prog Tryz.f312 [0,2,4,8,14]=some yh:=by kernel_rfl
abbrev F313.fr:=fr4
def F313.b0:IR:=dI [] 17148362470314413520904398081106201917490462231
def F313.res:List RV:=[.t (.of 2)]
def F313:Fn:={ params:=[(.of 0),(.of 1)],res:=F313.res,body:=F313.b0,init:=in4 }
theorem F313.ok:fnA Tryz.prog Tryz.f313 [0,1,4,7]=some F313:=by kernel_rfl
abbrev zw.fr:=fr11
def zw.t0:IR:=.reg [iQo 2 (.mv (.c (.str [])))]
def zw.t1:IR:=.reg (dA [] 2142340986)
def zw.t2:IR:=.reg (dA [] 2152311180618805471963748867929033)
def zw.t3:IR:=.reg (dA [] 376958196)
def zw.t7:IR:=.reg (dA [] 1825837)
def zw.t8:IR:=.reg (dA [] 35503348)
def zw.t9:IR:=.reg (dA [] 96437882)
def zw.t10:IR:=.reg (dA [] 33721332)
def zw.t13:IR:=.reg (dA [] 95243459572)
def zw.t14:IR:=.reg (dA [] 132065534807384986280978393)
def zw.t15:IR:=.reg (dA [] 192398970)
def zw.t16:IR:=.reg (dA [] 4202078631525950)
def zw.t17:IR:=.reg (dA [] 21378671963558045657)
def zw.t22:IR:=.reg (dA [] 85516686056754964441)
def zw.t26:IR:=.seq zw.t13 (.seq zw.t14 (.seq (.seq zw.t15 (.cond aT10 (.seq zw.t16 (.seq zw.t17 .ret)) .skip)) (.seq zw.t22 .ret)))
def zw.t29:IR:=.seq zw.t7 (.seq zw.t8 (.seq (.seq zw.t9 (.cond aT9 zw.t10 .skip)) zw.t26))
def zw.t38:IR:=.seq zw.t0 (.seq (.seq zw.t1 (.cond aT7 (.seq (.seq zw.t2 (.cond aT8 (.seq zw.t3 .ret) .skip)) zw.t29) .skip)) (.seq (.reg (dA [] 591313712898653092364005517798826241924768)) (.seq (.reg (dA [] 90)) .ret)))
def zw.b0:IR:=zw.t38
def zw.res:List RV:=[.t (.of 2)]
def zw:Fn:={ params:=[(.of 0),(.of 1)],res:=zw.res,body:=zw.b0,init:=in11 }
theorem zw.ok:fnA Tryz.prog Tryz.f314 [0,1,4,5,6,7,9,11,17,23,34]=some zw:=by kernel_rfl
abbrev vg.fr:=fr3
def vg.t0:IR:=.reg [iQo 1 (.mv (.c (.str [])))]
def vg.t1:IR:=.reg (dA [] 267847290)
def vg.t2:IR:=.reg (dA [] 11057083446302729177)
def vg.t6:IR:=.reg (dA [] 48123922544694832475446473680)
def vg.t9:IR:=.seq vg.t0 (.seq (.seq vg.t1 (.cond aT2 (.seq vg.t2 .ret) .skip)) (.seq vg.t6 .ret))
def vg.b0:IR:=vg.t9
def vg.res:List RV:=[.t (.of 1)]
def vg:Fn:={ params:=[(.of 0)],res:=vg.res,body:=vg.b0,init:=in3 }
theorem vg.ok:fnA Tryz.prog Tryz.f315 [0,2,4]=some vg:=by kernel_rfl
abbrev pu.fr:=fr3
def pu.t0:IR:=.reg [iQo 1 (.mv aC0)]
def pu.t1:IR:=.reg (dA [] 794387166779880)
def pu.t2:IR:=.reg (dA [] 5948723357646919393720571953668149681)
def pu.t5:IR:=.seq pu.t0 (.seq pu.t1 (.seq pu.t2 .ret))
def pu.b0:IR:=pu.t5
def pu.res:List RV:=[.t (.of 1)]
def pu:Fn:={ params:=[(.of 0)],res:=pu.res,body:=pu.b0,init:=in3 }
theorem pu.ok:fnA Tryz.prog Tryz.f316 [0,2,3]=some pu:=by kernel_rfl
end
end Go.Ev
