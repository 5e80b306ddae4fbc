import Derived.Test.YtfgpjkchdelphaaGreatDoorIrA
import Derived.Test.YtfgpjkchdelphaaGreatDoorEvC
import Derived.Test.YtfgpjkchdelphaaGreatDoorProg
import Derived.KernelRfl
set_option linter.unusedSimpArgs false
set_option linter.unusedVariables false
namespace Go.Ev
open Go Go.Proofs
set_option maxRecDepth 100000
noncomputable section

abbrev gq.fr:=fr5
def gq.t0:IR:=.reg [iQo 1 (.mv aC0)]
def gq.t1:IR:=.reg [iQo 2 (.mv aC0)]
def gq.t2:IR:=.reg [iQo 3 (.mv aC0)]
def gq.t3:IR:=.reg (dA [] 15291886855379)
def gq.t6:IR:=.reg (dA [] 492465815414585369166102029058907)
def gq.t8:IR:=.reg (dA [] 170814769)
def gq.t10:IR:=.seq (.seq gq.t3 (.cond aT4 .skip (.exit 0))) (.seq (.block 1 gq.t6) gq.t8)
def gq.t11:IR:=.loop gq.t10
def gq.t14:IR:=.reg (dA [] 4151)
def gq.t18:IR:=.seq gq.t0 (.seq gq.t1 (.seq (.seq gq.t2 (.block 0 gq.t11)) (.seq gq.t14 .ret)))
def gq.b0:IR:=gq.t18
def gq.res:List RV:=[.t (.of 1)]
def gq:Fn:={ params:=[(.of 0)],res:=gq.res,body:=gq.b0,init:=in5 }
theorem gq.ok:fnA Tryz.prog Tryz.f209 [0,2,3,4,8]=some gq:=by kernel_rfl
abbrev qc.fr:=fr4
def qc.t0:IR:=.reg [iQo 2 (.mv aC0)]
def qc.t1:IR:=.reg (dA [] 245009655)
def qc.t4:IR:=dI [] 4924344427773134173542
def qc.t6:IR:=.seq (.seq qc.t1 (.cond aT3 .skip (.exit 0))) (.block 1 qc.t4)
def qc.t7:IR:=.loop qc.t6
def qc.t9:IR:=.reg (dA [] 503)
def qc.t12:IR:=.seq qc.t0 (.seq (.block 0 qc.t7) (.seq qc.t9 .ret))
def qc.b0:IR:=qc.t12
def qc.res:List RV:=[.t (.of 2)]
def qc:Fn:={ params:=[(.of 0),(.of 1)],res:=qc.res,body:=qc.b0,init:=in4 }
theorem qc.ok:fnA Tryz.prog Tryz.f210 [0,1,4,6]=some qc:=by kernel_rfl
abbrev ja.fr:=fr5
def ja.t0:IR:=.reg [iQo 2 (.mv (.c (.str [])))]
def ja.t1:IR:=.reg [iQo 3 (.mv (.c (.str [])))]
def ja.ztf (r:List RO):List RO:=dA r 2040915539332915454592154142675556986763
def ja.r2_0:List RO:=ja.ztf []
def ja.t2:IR:=.reg ja.r2_0
def ja.t3:IR:=.cond aT4 .skip (.exit 0)
def ja.t5:IR:=.reg (dA [] 855435195721034867231886796569518727003)
def ja.t6:IR:=.reg (dA [] 219747397105)
def ja.t8:IR:=.block 1 (.seq ja.t5 ja.t6)
def ja.t9:IR:=.seq (.seq ja.t2 ja.t3) ja.t8
def ja.t10:IR:=.loop ja.t9
def ja.t12:IR:=.reg (dA [] 311)
def ja.t13:IR:=.seq ja.t12 .ret
def ja.t16:IR:=.seq ja.t0 (.seq ja.t1 (.seq (.block 0 ja.t10) ja.t13))
def ja.b0:IR:=ja.t16
def ja.res:List RV:=[.t (.of 2)]
def ja:Fn:={ params:=[(.of 0),(.of 1)],res:=ja.res,body:=ja.b0,init:=in5 }
theorem ja.ok:fnA Tryz.prog Tryz.f211 [0,1,4,5,13]=some ja:=by kernel_rfl
abbrev fP.fr:=fr3
def fP.t0:IR:=.reg (dA [] 12569015455)
def fP.t1:IR:=.reg (dA [] 261824440469394608931894115)
def fP.t3:IR:=.seq fP.t0 (.seq fP.t1 .ret)
def fP.b0:IR:=fP.t3
def fP.res:List RV:=[.cell (.of 2) (some 2)]
def fP:Fn:={ params:=[(.of 0)],res:=fP.res,body:=fP.b0,init:=in3 }
theorem fP.ok:fnA Tryz.prog Tryz.f212 [0,1,2]=some fP:=by kernel_rfl
abbrev kg.fr:=fr29
def kg.t0:IR:=.reg (dA [] 6096263)
def kg.t1:IR:=.reg (dA [] 33958013083292657619)
def kg.t2:IR:=.reg (dA [] 42123761)
def kg.t6:IR:=.reg (dA [] 806258889969)
def kg.t7:IR:=.reg (dA [] 14008676831414969896203893317379)
def kg.t8:IR:=.reg (dA [] 195243525497406967234475)
def kg.t109:IR:=.seq kg.t0 (.seq (.seq kg.t1 (.cond aT21 (.seq kg.t2 .ret) .skip)) (.seq (.seq kg.t6 (.cond aT22 (.seq kg.t7 (.seq kg.t8 .ret)) .skip)) (.seq (.reg (dA [] 3025647518678893157010248839406784259)) (.seq (.reg (dA [] 987322106864595)) (.seq (.reg (dA [] 15773489)) (.seq (.reg (dA [] 854344562488977813242443883)) (.seq (.block 0 (.loop (.seq (.seq (.reg (dA [] 1619406247036843629483)) (.cond aT23 .skip (.exit 0))) (.block 1 (.reg (dA [] 203141608858294177235)))))) (.seq (.reg (dA [] 3561659425305689496491)) (.seq (.seq (.reg (dA [] 17922453867363736491)) (.block 2 (.loop (.seq (.seq (.reg (dA [] 31428851255)) (.cond aT24 .skip (.exit 2))) (.seq (.block 3 (.seq (.reg (dA [] 64809480859491179451)) (iSr [(iQo 13 (.mv aC0))] (.seq (iSr [(iQo 14 (.mv aC0))] (.block 4 (.loop (.seq (.seq (.reg (dA [] 2182678813681)) (.cond aT25 .skip (.exit 4))) (.seq (.block 5 (.seq (.reg (dA [] 1178784699837484870253482456923)) (.seq (.reg (dA [] 904000809993461917506810363068167939)) (.seq (.reg (dA [] 1315794244401)) (.seq (.seq (.reg (dA [] 126541216759)) (.cond aT26 (.seq (.reg (dA [] 1497178684401)) (.reg (dA [] 5124619057))) .skip)) (.reg (dA [] 532626121413311111056268195))))))) (.reg (dA [] 12396714993))))))) (.seq (.reg ((iSm 9)::((iSm 11)::((iSm 8)::((.s (.bin .add .int aS1 aS0))::((iSm 9)::((iSm 11)::((iSm 8)::((.s (.bin .add .int aS1 aS0))::((.s (.tJ 1 aS3 aS0))::((.s (.load aS0))::((iSm 13)::((.s (.bin .sub .int aS1 aS0))::((.s (.tJ 1 aS11 aS8))::((.w .none none (.store 1 aS0 aS1))::[]))))))))))))))) (.seq (.seq (.reg (dA [] 71311930336335968266820515)) (.cond aT27 (.seq (.reg (dA [] 3806690161)) (iSr [(iQo 17 (.mv aC0))] (.seq (iSr [(iQo 18 (.mv aC0))] (.block 6 (.loop (.seq (.seq (.reg (dA [] 8589457980401)) (.cond aT28 .skip (.exit 6))) (.seq (.block 7 (.seq (.rq [] (((iSm 9)::((iSm 18)::((iSm 11)::((.s (.bin .add .int aS1 aS0))::((.s (.tJ 1 aS3 aS0))::((.s (.load aS0))::((iSm 7)::((iSm 18)::((.s (.tJ 1 aS1 aS0))::((.s (.load aS0))::((.s (.bin .add .int aS4 aS0))::((iSm 17)::((.s (.bin .add .int aS1 aS0))::((iQm 19 0)::[])))))))))))))).map λo=>(o,0,[]))) (.seq (.reg (dA [] 2234052356583873903552735064562571)) (.reg (dA [] 7579390805873))))) (.reg (dA [] 37678349297))))))) (.reg ((iSm 9)::((iSm 11)::((iSm 8)::((.s (.bin .add .int aS1 aS0))::((iSm 9)::((iSm 11)::((iSm 8)::((.s (.bin .add .int aS1 aS0))::((.s (.tJ 1 aS3 aS0))::((.s (.load aS0))::((iSm 17)::((.s (.bin .add .int aS1 aS0))::((.s (.tJ 1 aS11 aS8))::((.w .none none (.store 1 aS0 aS1))::[])))))))))))))))))) .skip)) (.reg (dA [] 7936710230369592763)))))))) (.reg (dA [] 8345794097))))))) (.seq (.rq [] [((iSm 9),0,[]),((iSm 8),0,[]),((.s (.slice 1 aS1 none (some aS0) none)),0,[]),((iSm 6),1,[]),((.s (.tJ 1 aS0 aC0)),1,[]),((.s (.load aS0)),1,[]),((iCa 269 [aS3]),0,[]),((iCa 268 [aS0,aS1]),0,[]),((.s (.mv aS0)),0,[]),((.s (.ext 0 aS0)),0,[]),((.s (.ext 1 aS1)),0,[]),((iQm 20 1),0,[]),((.s (.mv aS0)),0,[])]) (.seq (.reg (dA [] 363668086961464763)) .ret)))))))))))
def kg.b0:IR:=kg.t109
def kg.res:List RV:=[.t (.of 2),.t (.of 3)]
def kg:Fn:={ params:=[(.of 0),(.of 1)],res:=kg.res,body:=kg.b0,init:=in29 }
theorem kg.ok:fnA Tryz.prog Tryz.f213 [0,1,4,5,6,7,8,9,10,11,12,13,14,15,16,17,18,19,20,21,22,27,31,68,83,92,115,145,150]=some kg:=by kernel_rfl
abbrev bf.fr:=fr3
def bf.t0:IR:=.reg (dA [] 191789)
def bf.t1:IR:=.reg (dA [] 4665892081)
def bf.t2:IR:=.reg (dA [] 589620240440432296380382339684167403609947)
def bf.t5:IR:=.seq bf.t0 (.seq bf.t1 (.seq bf.t2 .ret))
def bf.b0:IR:=bf.t5
def bf.res:List RV:=[.cell (.of 2) (some 2)]
def bf:Fn:={ params:=[(.of 0),(.of 1)],res:=bf.res,body:=bf.b0,init:=in3 }
theorem bf.ok:fnA Tryz.prog Tryz.f214 [0,1,4]=some bf:=by kernel_rfl
abbrev yc.fr:=fr9
def yc.t0:IR:=.reg [iQo 2 (.mv aC0)]
def yc.t1:IR:=.reg (dA [] 964326087372731)
def yc.t2:IR:=.reg (dA [] 982468029231035)
def yc.t3:IR:=.reg [iQo 2 (.mv (.c (I (-1))))]
def yc.t7:IR:=.reg [iQo 2 (.mv aC1)]
def yc.t12:IR:=.reg (dA [] 174908331987)
def yc.t13:IR:=.reg (dA [] 491031863)
def yc.t16:IR:=dI [] 2514717333706714554788986164079462
def yc.t17:IR:=.reg [iQo 2 (.mv (.c (I (-1))))]
def yc.t21:IR:=dI [] 10011761439781491763915676008573798
def yc.t22:IR:=.reg [iQo 2 (.mv aC1)]
def yc.t28:IR:=.reg (dA [] 341617969)
def yc.t30:IR:=.seq (.seq yc.t13 (.cond aT6 .skip (.exit 0))) (.seq (.block 1 (.seq (.seq yc.t16 (.cond aT7 (.seq yc.t17 .ret) .skip)) (.seq yc.t21 (.cond aT8 (.seq yc.t22 .ret) .skip)))) yc.t28)
def yc.t31:IR:=.loop yc.t30
def yc.t34:IR:=.reg [iQo 2 (.mv aC0)]
def yc.t38:IR:=.seq yc.t0 (.seq (.seq yc.t1 (.cond aT4 (.seq (.seq yc.t2 (.cond aT5 (.seq yc.t3 .ret) .skip)) (.seq yc.t7 .ret)) .skip)) (.seq (.seq yc.t12 (.block 0 yc.t31)) (.seq yc.t34 .ret)))
def yc.b0:IR:=yc.t38
def yc.res:List RV:=[.t (.of 2)]
def yc:Fn:={ params:=[(.of 0),(.of 1)],res:=yc.res,body:=yc.b0,init:=in9 }
theorem yc.ok:fnA Tryz.prog Tryz.f216 [0,1,4,5,10,15,20,31,40]=some yc:=by kernel_rfl
abbrev F219.fr:=fr9
def F219.b0:IR:=dI [] 32747670897725633667669084307515358840354839197060992164054930976001037825318271771834972695
def F219.res:List RV:=[.t (.of 2)]
def F219:Fn:={ params:=[(.of 0),(.of 1)],res:=F219.res,body:=F219.b0,init:=in9 }
theorem F219.ok:fnA Tryz.prog Tryz.f219 [0,1,4,5,7,8,9,10,11]=some F219:=by kernel_rfl
abbrev F220.fr:=fr3
def F220.b0:IR:=dI [] 4860578099502886916444799
def F220.res:List RV:=[.t (.of 2)]
def F220:Fn:={ params:=[(.of 0)],res:=F220.res,body:=F220.b0,init:=in3 }
theorem F220.ok:fnA Tryz.prog Tryz.f220 [0,1,2]=some F220:=by kernel_rfl
abbrev F221.fr:=fr3
def F221.b0:IR:=dI [] 38847045681733826570605183
def F221.res:List RV:=[.t (.of 2)]
def F221:Fn:={ params:=[(.of 0)],res:=F221.res,body:=F221.b0,init:=in3 }
theorem F221.ok:fnA Tryz.prog Tryz.f221 [0,1,2]=some F221:=by kernel_rfl
abbrev F222.fr:=fr3
def F222.b0:IR:=dI [] 38739611844248542141993599
def F222.res:List RV:=[.t (.of 2)]
def F222:Fn:={ params:=[(.of 0)],res:=F222.res,body:=F222.b0,init:=in3 }
theorem F222.ok:fnA Tryz.prog Tryz.f222 [0,1,2]=some F222:=by kernel_rfl
abbrev F223.fr:=fr3
def F223.b0:IR:=dI [] 77633022197162940121993855
def F223.res:List RV:=[.t (.of 2)]
def F223:Fn:={ params:=[(.of 0)],res:=F223.res,body:=F223.b0,init:=in3 }
theorem F223.ok:fnA Tryz.prog Tryz.f223 [0,1,2]=some F223:=by kernel_rfl
abbrev F224.fr:=fr3
def F224.b0:IR:=dI [] 113225040331633516688765380413310621097644029379235538641812566357536920191
def F224.res:List RV:=[.t (.of 2)]
def F224:Fn:={ params:=[(.of 0)],res:=F224.res,body:=F224.b0,init:=in3 }
theorem F224.ok:fnA Tryz.prog Tryz.f224 [0,1,2]=some F224:=by kernel_rfl
abbrev F225.fr:=fr6
def F225.b0:IR:=dI [] 1038725893184085992277701843094998954230108924125956405211101605829311534987114877514230422610911242888907242312314746165798744045185012345430572442547744923583552397774097411461759
def F225.res:List RV:=[.t (.of 2)]
def F225:Fn:={ params:=[(.of 0)],res:=F225.res,body:=F225.b0,init:=in6 }
theorem F225.ok:fnA Tryz.prog Tryz.f225 [0,1,2,3,4,13]=some F225:=by kernel_rfl
abbrev F226.fr:=fr6
def F226.b0:IR:=dI [] 22276115624755415044397514472120047834254560120266035697801884715271907806006822556457826347797884701225505407
def F226.res:List RV:=[.t (.of 2)]
def F226:Fn:={ params:=[(.of 0)],res:=F226.res,body:=F226.b0,init:=in6 }
theorem F226.ok:fnA Tryz.prog Tryz.f226 [0,1,2,5,8,13]=some F226:=by kernel_rfl
abbrev F227.fr:=fr3
def F227.b0:IR:=dI [] 46827558369470721387095694290606673506284809998975
def F227.res:List RV:=[.t (.of 2)]
def F227:Fn:={ params:=[(.of 0)],res:=F227.res,body:=F227.b0,init:=in3 }
theorem F227.ok:fnA Tryz.prog Tryz.f227 [0,1,2]=some F227:=by kernel_rfl
abbrev F228.fr:=fr8
def F228.b0:IR:=dI [] 230769124472688527859541496214815104898791932643820960002055031584429050019143701038503644276086879252356225947678574222365668617304053578911934160611291775
def F228.res:List RV:=[.cell (.of 3) (some 2)]
def F228:Fn:={ params:=[(.of 0),(.of 1)],res:=F228.res,body:=F228.b0,init:=in8 }
theorem F228.ok:fnA Tryz.prog Tryz.f228 [0,1,2,4,5,8,13,18]=some F228:=by kernel_rfl
abbrev F229.fr:=fr8
def F229.b0:IR:=dI [] 54477776900793889915172259145526867603992561617447560068564354116662258653349817542630258661867402990809946853511892958048721508028306379131656843879
def F229.res:List RV:=[.t (.of 4)]
def F229:Fn:={ params:=[(.of 0),(.of 1)],res:=F229.res,body:=F229.b0,init:=in8 }
theorem F229.ok:fnA Tryz.prog Tryz.f229 [0,1,2,3,4,12,13,19]=some F229:=by kernel_rfl
abbrev F234.fr:=fr8
def F234.b0:IR:=dI [] 81407014598471880415337451401353671579317298704321990260460629804010646136827268171790871
def F234.res:List RV:=[.t (.of 2)]
def F234:Fn:={ params:=[(.of 0),(.of 1)],res:=F234.res,body:=F234.b0,init:=in8 }
theorem F234.ok:fnA Tryz.prog Tryz.f234 [0,1,4,5,7,8,9,16]=some F234:=by kernel_rfl
abbrev F235.fr:=fr15
def F235.b0:IR:=dI [] 2497243943383803473782970485535022583393785271284491035892706362254302668954539755263043406549727939400739702457890699279799723121329942028297140252800038090289800971516338769003468588913121317781002391
def F235.res:List RV:=[.t (.of 1)]
def F235:Fn:={ params:=[(.of 0)],res:=F235.res,body:=F235.b0,init:=in15 }
theorem F235.ok:fnA Tryz.prog Tryz.f235 [0,2,3,5,6,8,9,10,11,12,20,25,26,27,28]=some F235:=by kernel_rfl
abbrev F236.fr:=fr5
def F236.b0:IR:=dI [] 1382074795035497797241686406967911
def F236.res:List RV:=[.t (.of 4)]
def F236:Fn:={ params:=[(.of 0),(.of 1)],res:=F236.res,body:=F236.b0,init:=in5 }
theorem F236.ok:fnA Tryz.prog Tryz.f236 [0,1,2,3,4]=some F236:=by kernel_rfl
abbrev F237.fr:=fr8
def F237.b0:IR:=dI [] 9790438599643001123118128567116038422360951741703515185758354540496659762717236915009560823478436643359388649623
def F237.res:List RV:=[.t (.of 1)]
def F237:Fn:={ params:=[(.of 0)],res:=F237.res,body:=F237.b0,init:=in8 }
theorem F237.ok:fnA Tryz.prog Tryz.f237 [0,2,3,5,6,7,8,9]=some F237:=by kernel_rfl
abbrev F238.fr:=fr4
def F238.b0:IR:=dI [] 2797665351321381242402455
def F238.res:List RV:=[.t (.of 3)]
def F238:Fn:={ params:=[(.of 0),(.of 1),(.of 2)],res:=F238.res,body:=F238.b0,init:=in4 }
theorem F238.ok:fnA Tryz.prog Tryz.f238 [0,1,2,4]=some F238:=by kernel_rfl
abbrev F239.fr:=fr4
def F239.b0:IR:=dI [] 2797661444715877234112151
def F239.res:List RV:=[.t (.of 3)]
def F239:Fn:={ params:=[(.of 0),(.of 1),(.of 2)],res:=F239.res,body:=F239.b0,init:=in4 }
theorem F239.ok:fnA Tryz.prog Tryz.f239 [0,1,2,4]=some F239:=by kernel_rfl
abbrev F242.fr:=fr2
def F242.b0:IR:=dI [] 37476672816501512343
def F242.res:List RV:=[.t (.of 1)]
def F242:Fn:={ params:=[(.of 0)],res:=F242.res,body:=F242.b0,init:=in2 }
theorem F242.ok:fnA Tryz.prog Tryz.f242 [0,2]=some F242:=by kernel_rfl
abbrev F243.fr:=fr2
def F243.b0:IR:=dI [] 233606123115133115813101896019271047111
def F243.res:List RV:=[]
def F243:Fn:={ params:=[(.of 0)],res:=F243.res,body:=F243.b0,init:=in2 }
theorem F243.ok:fnA Tryz.prog Tryz.f243 [0,2]=some F243:=by kernel_rfl
abbrev F244.fr:=fr8
def F244.b0:IR:=dI [] 627201159071364193189059206531462133356189283683313396760434691906672215655
def F244.res:List RV:=[]
def F244:Fn:={ params:=[(.of 0),(.of 1)],res:=F244.res,body:=F244.b0,init:=in8 }
theorem F244.ok:fnA Tryz.prog Tryz.f244 [0,1,4,5,6,7,8,14]=some F244:=by kernel_rfl
abbrev wz.fr:=fr8
def wz.b3:IR:=dI [] 4563489048927350148231990751720621930657784725735389109286855799
def wz.b2:IR:=(.loop wz.b3)
def wz.g1 (X2:IR):IR:=(.block 0 X2)
def wz.b1:IR:=wz.g1 wz.b2
def wz.b8:IR:=dI [] 1340951
def wz.b0:IR:=dI [wz.b1,wz.b8] 103677204460129450519
def wz.res:List RV:=[.t (.of 2)]
def wz:Fn:={ params:=[(.of 0),(.of 1)],res:=wz.res,body:=wz.b0,init:=in8 }
theorem wz.ok:fnA Tryz.prog Tryz.f245 [0,1,4,5,7,8,9,16]=some wz:=by kernel_rfl
abbrev ul.fr:=fr3
def ul.t0:IR:=.reg (dA [] 42202271)
def ul.zfo (r:List RO):List RO:=dA r 411500018317494023027025395
def ul.r1_3:List RO:=ul.zfo []
def ul.zfn (r:List RO):List RO:=dA r 787843299005
def ul.r1_2:List RO:=ul.zfn ul.r1_3
def ul.rQ (r:List RO):List RO:=dA r 51919870322398865582968179
def ul.tO:List RO:=ul.rQ ul.r1_2
def ul.rP (r:List RO):List RO:=dA r 23873404399
def ul.sD:List RO:=ul.rP ul.tO
def ul.t1:IR:=.reg ul.sD
def ul.t3:IR:=.seq ul.t0 (.seq ul.t1 .ret)
def ul.b0:IR:=ul.t3
def ul.res:List RV:=[.t (.of 2)]
def ul:Fn:={ params:=[(.of 0)],res:=ul.res,body:=ul.b0,init:=in3 }
theorem ul.ok:fnA Tryz.prog Tryz.f246 [0,1,2]=some ul:=by kernel_rfl
abbrev F247.fr:=fr8
def F247.b0:IR:=dI [] 10175876824808985051917181426615110009219265926679236535058908450797264365458868522678807
def F247.res:List RV:=[.t (.of 2)]
def F247:Fn:={ params:=[(.of 0),(.of 1)],res:=F247.res,body:=F247.b0,init:=in8 }
theorem F247.ok:fnA Tryz.prog Tryz.f247 [0,1,4,5,7,8,9,16]=some F247:=by kernel_rfl
abbrev fU.fr:=fr2
def fU.t0:IR:=.reg [iQo 1 (.mv (.c (.str [])))]
def fU.t1:IR:=.reg (dA [] 4668251633)
def fU.t3:IR:=.seq fU.t0 (.seq fU.t1 .ret)
def fU.b0:IR:=fU.t3
def fU.res:List RV:=[.t (.of 1)]
def fU:Fn:={ params:=[(.of 0)],res:=fU.res,body:=fU.b0,init:=in2 }
theorem fU.ok:fnA Tryz.prog Tryz.f248 [0,2]=some fU:=by kernel_rfl
abbrev ql.fr:=fr6
def ql.t0:IR:=.reg (dA [] 199758181529)
def ql.t1:IR:=.reg (dA [] 71144082144691)
def ql.t4:IR:=.reg (dA [] 3086921710003)
def ql.t5:IR:=.reg (dA [] 3048071)
def ql.t12:IR:=dI [] 7005159104029610791115550033125157818391398
def ql.t15:IR:=.seq ql.t0 (.seq (.block 0 (.seq ql.t1 (.cond aT4 (.seq (.rq [] [(.s (.oW 0 aT1),0,[]),(.s (.load aS0),0,[]),(.s (.bin .lss .int aS0 aC0),0,[]),(.s (.oW 1 aT1),0,[]),(.s (.load aS0),0,[]),(iQm 2 2,0,[]),(iQm 3 0,0,[])]) .ret) (.seq ql.t4 (.cond aT5 (.seq ql.t5 .ret) .skip))))) (.seq ql.t12 .ret))
def ql.b0:IR:=ql.t15
def ql.res:List RV:=[.t (.of 2),.t (.of 3)]
def ql:Fn:={ params:=[(.of 0)],res:=ql.res,body:=ql.b0,init:=in6 }
theorem ql.ok:fnA Tryz.prog Tryz.f249 [0,1,2,3,4,13]=some ql:=by kernel_rfl
abbrev uq.fr:=fr4
def uq.t0:IR:=.reg [iQo 1 (.mv aC0)]
def uq.t1:IR:=.reg (dA [] 14126812663)
def uq.t2:IR:=.reg [iQo 1 (.mv aC0)]
def uq.t6:IR:=.reg (dA [] 908778708617341455198380351220351889291)
def uq.t7:IR:=.reg [iQo 1 (.mv (.c (I (-1))))]
def uq.t11:IR:=.reg [iQo 1 (.mv aC1)]
def uq.t15:IR:=.seq uq.t0 (.seq (.seq uq.t1 (.cond aT2 (.seq uq.t2 .ret) .skip)) (.seq (.seq uq.t6 (.cond aT3 (.seq uq.t7 .ret) .skip)) (.seq uq.t11 .ret)))
def uq.b0:IR:=uq.t15
def uq.res:List RV:=[.t (.of 1)]
def uq:Fn:={ params:=[(.of 0)],res:=uq.res,body:=uq.b0,init:=in4 }
theorem uq.ok:fnA Tryz.prog Tryz.f255 [0,2,4,12]=some uq:=by kernel_rfl
abbrev gu.fr:=fr5
def gu.t0:IR:=.reg [iQo 1 (.mv (.c .za))]
def gu.t1:IR:=.reg [iQo 2 (.mv (.c .za))]
def gu.t2:IR:=.reg [iQo 3 (.mv aC0)]
def gu.t3:IR:=.reg (dA [] 1911473038547)
def gu.t6:IR:=.reg (dA [] 282572566391198238643313980568104248820483)
def gu.t8:IR:=.reg (dA [] 170814769)
def gu.t10:IR:=.seq (.seq gu.t3 (.cond aT4 .skip (.exit 0))) (.seq (.block 1 gu.t6) gu.t8)
def gu.t11:IR:=.loop gu.t10
def gu.t14:IR:=.reg (dA [] 4151)
def gu.t18:IR:=.seq gu.t0 (.seq gu.t1 (.seq (.seq gu.t2 (.block 0 gu.t11)) (.seq gu.t14 .ret)))
def gu.b0:IR:=gu.t18
def gu.res:List RV:=[.t (.of 1)]
def gu:Fn:={ params:=[(.of 0)],res:=gu.res,body:=gu.b0,init:=in5 }
theorem gu.ok:fnA Tryz.prog Tryz.f256 [0,2,3,4,8]=some gu:=by kernel_rfl
abbrev uf.fr:=fr7
def uf.t0:IR:=.reg (dA [] 433568301706393)
def uf.t1:IR:=dI [] 412248592094027230480650238488960953702
def uf.t2:IR:=.reg (dA [] 33058145869188585)
def uf.t5:IR:=.reg (dA [] 2697128109918268091345973974850596141850243)
def uf.t6:IR:=dI [] 366150303051548564321894
def uf.t9:IR:=.seq (.seq uf.t2 (.cond aT6 .skip (.exit 0))) (.block 1 (.seq uf.t5 uf.t6))
def uf.t10:IR:=.loop uf.t9
def uf.t12:IR:=.reg (dA [] 8548584943)
def uf.t16:IR:=.seq uf.t0 (.seq uf.t1 (.seq (.block 0 uf.t10) (.seq uf.t12 .ret)))
def uf.b0:IR:=uf.t16
def uf.res:List RV:=[.cell (.of 4) (some 2)]
def uf:Fn:={ params:=[(.of 0),(.of 1)],res:=uf.res,body:=uf.b0,init:=in7 }
theorem uf.ok:fnA Tryz.prog Tryz.f258 [0,1,2,3,4,6,13]=some uf:=by kernel_rfl
abbrev qh.fr:=fr7
def qh.t0:IR:=.reg (dA [] 433568301706393)
def qh.t1:IR:=.reg (dA [] 16591859731615209)
def qh.t2:IR:=dI [] 412248592094025228197201829064327687526
def qh.t5:IR:=.reg (dA [] 2331858665902327562176158009957267295755907)
def qh.t6:IR:=.reg (dA [] 17097276911)
def qh.t8:IR:=.seq qh.t5 (.seq qh.t6 .ret)
def qh.t10:IR:=.seq qh.t0 (.seq (.seq qh.t1 (.cond aT6 qh.t2 .skip)) qh.t8)
def qh.b0:IR:=qh.t10
def qh.res:List RV:=[.cell (.of 4) (some 2)]
def qh:Fn:={ params:=[(.of 0),(.of 1)],res:=qh.res,body:=qh.b0,init:=in7 }
theorem qh.ok:fnA Tryz.prog Tryz.f259 [0,1,2,3,4,5,9]=some qh:=by kernel_rfl
abbrev jf.fr:=fr12
def jf.t0:IR:=.reg (dA [] 2597362311)
def jf.t1:IR:=.reg (dA [] 69731102193)
def jf.t2:IR:=.reg (dA [] 95729757681)
def jf.t3:IR:=.reg (dA [] 310249270513)
def jf.t4:IR:=.reg (dA [] 121499561201)
def jf.t5:IR:=.reg (dA [] 1032560762835)
def jf.t6:IR:=.reg (dA [] 13329896833316884873328547)
def jf.t7:IR:=.reg (dA [] 828680221553)
def jf.t8:IR:=.reg (dA [] 1070113796977)
def jf.t9:IR:=.reg (dA [] 3507655011104417195)
def jf.t10:IR:=.reg (dA [] 66506598770619203622981037915)
def jf.t11:IR:=.reg (dA [] 86341445587)
def jf.t23:IR:=.seq jf.t0 (.seq jf.t1 (.seq jf.t2 (.seq jf.t3 (.seq jf.t4 (.seq jf.t5 (.seq jf.t6 (.seq jf.t7 (.seq jf.t8 (.seq jf.t9 (.seq jf.t10 (.seq jf.t11 .ret)))))))))))
def jf.b0:IR:=jf.t23
def jf.res:List RV:=[.t (.of 2),.t (.of 3)]
def jf:Fn:={ params:=[(.of 0),(.of 1)],res:=jf.res,body:=jf.b0,init:=in12 }
theorem jf.ok:fnA Tryz.prog Tryz.f263 [0,1,4,5,6,7,8,9,10,11,12,13]=some jf:=by kernel_rfl
abbrev xu.fr:=fr3
def xu.t0:IR:=.reg (dA [] 158245)
def xu.t1:IR:=.reg (dA [] 61738487)
def xu.t2:IR:=.reg (dA [] 302517254099)
def xu.t6:IR:=.reg (dA [] 18464241)
def xu.t9:IR:=.seq xu.t0 (.seq (.seq xu.t1 (.cond aT2 (.seq xu.t2 .ret) .skip)) (.seq xu.t6 .ret))
def xu.b0:IR:=xu.t9
def xu.res:List RV:=[.t (.of 1)]
def xu:Fn:={ params:=[(.of 0)],res:=xu.res,body:=xu.b0,init:=in3 }
theorem xu.ok:fnA Tryz.prog Tryz.f264 [0,2,4]=some xu:=by kernel_rfl
abbrev jc.fr:=fr9
def jc.t0:IR:=.reg (dA [] 15533447)
def jc.t1:IR:=.reg (dA [] 71553956534227)
def jc.t2:IR:=.reg [iQo 5 (.mv aC0)]
def jc.t3:IR:=.reg (dA [] 312347285459)
def jc.t4:IR:=.reg (dA [] 1963924151)
def jc.t7:IR:=.reg (dA [] 68282725106978762463049611)
def jc.t8:IR:=.reg (dA [] 16645602813942671584116643)
def jc.t9:IR:=.reg (dA [] 757855411411)
def jc.t13:IR:=.reg (dA [] 1220106929)
def jc.t15:IR:=.seq (.seq jc.t4 (.cond aT8 .skip (.exit 0))) (.seq (.block 1 (.seq jc.t7 (.seq jc.t8 jc.t9))) jc.t13)
def jc.t16:IR:=.loop jc.t15
def jc.t19:IR:=.reg (dA [] 22732924235153339)
def jc.t24:IR:=.seq jc.t0 (.seq jc.t1 (.seq jc.t2 (.seq (.seq jc.t3 (.block 0 jc.t16)) (.seq jc.t19 .ret))))
def jc.b0:IR:=jc.t24
def jc.res:List RV:=[.t (.of 2),.t (.of 3)]
def jc:Fn:={ params:=[(.of 0),(.of 1)],res:=jc.res,body:=jc.b0,init:=in9 }
theorem jc.ok:fnA Tryz.prog Tryz.f268 [0,1,4,5,6,7,8,9,17]=some jc:=by kernel_rfl
abbrev jv.fr:=fr3
def jv.t0:IR:=.reg [iQo 1 (.mv (.c .za))]
def jv.rQ (r:List RO):List RO:=dA r 856519688037784076923159945395
def jv.tO:List RO:=jv.rQ []
def jv.rP (r:List RO):List RO:=dA r 7518352524832255787631565409005451
def jv.sD:List RO:=jv.rP jv.tO
def jv.t1:IR:=.reg jv.sD
def jv.t4:IR:=.reg (dA [] 942711315472932392875)
def jv.t6:IR:=.seq (.seq jv.t1 (.cond aT2 .skip (.exit 0))) (.block 1 jv.t4)
def jv.t7:IR:=.loop jv.t6
def jv.t9:IR:=.reg (dA [] 4599)
def jv.t12:IR:=.seq jv.t0 (.seq (.block 0 jv.t7) (.seq jv.t9 .ret))
def jv.b0:IR:=jv.t12
def jv.res:List RV:=[.t (.of 1)]
def jv:Fn:={ params:=[(.of 0)],res:=jv.res,body:=jv.b0,init:=in3 }
theorem jv.ok:fnA Tryz.prog Tryz.f269 [0,2,14]=some jv:=by kernel_rfl
abbrev F272.fr:=fr8
def F272.b0:IR:=dI [] 9434308809970605089805435625748170760772194334663158063978447628835881304757316714662423
def F272.res:List RV:=[.t (.of 2)]
def F272:Fn:={ params:=[(.of 0),(.of 1)],res:=F272.res,body:=F272.b0,init:=in8 }
theorem F272.ok:fnA Tryz.prog Tryz.f272 [0,1,4,5,6,7,8,15]=some F272:=by kernel_rfl
abbrev F273.fr:=fr3
def F273.b0:IR:=dI [] 1725955617955935840415875214638981275510658186475234823948256542554647
def F273.res:List RV:=[.t (.of 2)]
def F273:Fn:={ params:=[(.of 0),(.of 1)],res:=F273.res,body:=F273.b0,init:=in3 }
theorem F273.ok:fnA Tryz.prog Tryz.f273 [0,1,3]=some F273:=by kernel_rfl
abbrev F274.fr:=fr4
def F274.b0:IR:=dI [] 1836282555426601904568821357555897317658980625686212412797308103642773143
def F274.res:List RV:=[.t (.of 3)]
def F274:Fn:={ params:=[(.of 0),(.of 1),(.of 2)],res:=F274.res,body:=F274.b0,init:=in4 }
theorem F274.ok:fnA Tryz.prog Tryz.f274 [0,1,2,5]=some F274:=by kernel_rfl
abbrev F275.fr:=fr6
def F275.b0:IR:=dI [] 17661226353891876263806846222578238435935693261748776592527217285089521885635399823983350826127090799857363386894789487016717264833303906910232710565675775531874726961629937218969335447
def F275.res:List RV:=[.t (.of 3)]
def F275:Fn:={ params:=[(.of 0),(.of 1),(.of 2)],res:=F275.res,body:=F275.b0,init:=in6 }
theorem F275.ok:fnA Tryz.prog Tryz.f275 [0,1,2,4,5,6]=some F275:=by kernel_rfl
abbrev F276.fr:=fr6
def F276.b0:IR:=dI [] 3021075294416889123370465381448729436461395614081978830781522612110885798012555878568064108362598265474855548348134797186131743345407639
def F276.res:List RV:=[.t (.of 3)]
def F276:Fn:={ params:=[(.of 0),(.of 1),(.of 2)],res:=F276.res,body:=F276.b0,init:=in6 }
theorem F276.ok:fnA Tryz.prog Tryz.f276 [0,1,2,4,5,6]=some F276:=by kernel_rfl
abbrev F277.fr:=fr6
def F277.b0:IR:=dI [] 93760547912682794422800277433778280568079476449400669776789185458452023541961101356359291101278084662441292288540293647429960038583521989536502870745551317054041586231013319498100269743854098937926973516422080958341158261375
def F277.res:List RV:=[.cell (.of 2) (some 2)]
def F277:Fn:={ params:=[(.of 0)],res:=F277.res,body:=F277.b0,init:=in6 }
theorem F277.ok:fnA Tryz.prog Tryz.f277 [0,1,2,3,4,13]=some F277:=by kernel_rfl
abbrev F278.fr:=fr5
def F278.b0:IR:=dI [] 147912210779674775401604665521860474947768323276741609558129742206343923632268836502580365648705698131678743
def F278.res:List RV:=[.t (.of 2)]
def F278:Fn:={ params:=[(.of 0),(.of 1)],res:=F278.res,body:=F278.b0,init:=in5 }
theorem F278.ok:fnA Tryz.prog Tryz.f278 [0,1,4,6,16]=some F278:=by kernel_rfl
abbrev F279.fr:=fr8
def F279.b0:IR:=dI [] 1628307303957812369308674808688157205932132750867654574273227842846128283066826257060322628265721990428395135
def F279.res:List RV:=[]
def F279:Fn:={ params:=[(.of 0),(.of 1),(.of 2)],res:=F279.res,body:=F279.b0,init:=in8 }
theorem F279.ok:fnA Tryz.prog Tryz.f279 [0,1,2,4,5,6,7,15]=some F279:=by kernel_rfl
abbrev F280.fr:=fr5
def F280.b0:IR:=dI [] 3589384467690237225795864852921835957068500346639362618571605916574741783
def F280.res:List RV:=[.t (.of 4)]
def F280:Fn:={ params:=[(.of 0),(.of 1),(.of 2),(.of 3)],res:=F280.res,body:=F280.b0,init:=in5 }
theorem F280.ok:fnA Tryz.prog Tryz.f280 [0,1,2,3,5]=some F280:=by kernel_rfl
abbrev F282.fr:=fr7
def F282.b0:IR:=dI [] 7613670930618957786154280716106982315469044491657841272689767039
def F282.res:List RV:=[.t (.of 3)]
def F282:Fn:={ params:=[(.of 0),(.of 1)],res:=F282.res,body:=F282.b0,init:=in7 }
theorem F282.ok:fnA Tryz.prog Tryz.f282 [0,1,2,4,5,6,7]=some F282:=by kernel_rfl
abbrev F283.fr:=fr23
def F283.b0:IR:=dI [] 124222262413711736605085178327553823781693251048968209487359979602349236395198993799095952518009528645672283043691067436896246334949561273994973513077574328877726655591597075904513654430543620430115032818201211424356841611235219782483276660473572945070862447831538168873798392380175390932856288525955860612484312035498339704055140565382818693032240016322592125530785608070941021055262085930043116581516496225820363085373003271242917396895194603647915261568308593502141218661862647741299167918245681751629786712628887414815816694999974574995829294277437728173647204094805836338676653096578405870858714596985503801166943589237653320592386784535
def F283.res:List RV:=[]
def F283:Fn:={ params:=[(.of 0),(.of 1),(.of 2),(.of 3)],res:=F283.res,body:=F283.b0,init:=in23 }
theorem F283.ok:fnA Tryz.prog Tryz.f283 [0,1,2,3,8,9,10,11,12,13,14,15,16,17,18,23,29,35,50,68,72,87,113]=some F283:=by kernel_rfl
abbrev F284.fr:=fr2
def F284.b0:IR:=dI [] 173032719506873772607485296469441112215
def F284.res:List RV:=[.t (.of 1)]
def F284:Fn:={ params:=[(.of 0)],res:=F284.res,body:=F284.b0,init:=in2 }
theorem F284.ok:fnA Tryz.prog Tryz.f284 [0,2]=some F284:=by kernel_rfl
abbrev jy.fr:=fr5
def jy.t0:IR:=.reg (dA [] 243528863)
def jy.t1:IR:=.reg (dA [] 34302818424730863398755)
def jy.t2:IR:=.reg (dA [] 31617078577)
def jy.t3:IR:=.reg [iQo 2 (.mv aC0)]
def jy.zth (r:List RO):List RO:=dA r 212703
def jy.r4_2:List RO:=jy.zth []
def jy.zfh (r:List RO):List RO:=dA r 3084788871113
def jy.r4_1:List RO:=jy.zfh jy.r4_2
def jy.zfg (r:List RO):List RO:=dA r 917803545771313884535029148043
def jy.r4_0:List RO:=jy.zfg jy.r4_1
def jy.t7:IR:=.reg jy.r4_0
def jy.t11:IR:=.seq jy.t0 (.seq jy.t1 (.seq (.seq jy.t2 (.cond aT4 (.seq jy.t3 .ret) .skip)) (.seq jy.t7 .ret)))
def jy.b0:IR:=jy.t11
def jy.res:List RV:=[.t (.of 2)]
def jy:Fn:={ params:=[(.of 0)],res:=jy.res,body:=jy.b0,init:=in5 }
theorem jy.ok:fnA Tryz.prog Tryz.f285 [0,1,2,4,12]=some jy:=by kernel_rfl
abbrev F286.fr:=fr3
def F286.b0:IR:=dI [] 1182869588070226670103
def F286.res:List RV:=[.t (.of 2)]
def F286:Fn:={ params:=[(.of 0),(.of 1)],res:=F286.res,body:=F286.b0,init:=in3 }
theorem F286.ok:fnA Tryz.prog Tryz.f286 [0,1,4]=some F286:=by kernel_rfl
abbrev fT.fr:=fr2
def fT.t0:IR:=.reg [iQo 1 (.mv (.c (.str [])))]
def fT.t1:IR:=.reg (dA [] 5119038316017)
def fT.t3:IR:=.seq fT.t0 (.seq fT.t1 .ret)
def fT.b0:IR:=fT.t3
def fT.res:List RV:=[.t (.of 1)]
def fT:Fn:={ params:=[(.of 0)],res:=fT.res,body:=fT.b0,init:=in2 }
theorem fT.ok:fnA Tryz.prog Tryz.f287 [0,2]=some fT:=by kernel_rfl
abbrev vg.fr:=fr4
def vg.t0:IR:=.reg (dA [] 1831597215)
def vg.t1:IR:=.reg (dA [] 126604529257)
def vg.t2:IR:=.reg (dA [] 238136088542697)
def vg.t6:IR:=.reg (dA [] 227098095)
def vg.t9:IR:=.seq vg.t0 (.seq (.seq vg.t1 (.cond aT3 (.seq vg.t2 .ret) .skip)) (.seq vg.t6 .ret))
def vg.b0:IR:=vg.t9
def vg.res:List RV:=[.cell (.of 2) (some 2)]
def vg:Fn:={ params:=[(.of 0)],res:=vg.res,body:=vg.b0,init:=in4 }
theorem vg.ok:fnA Tryz.prog Tryz.f299 [0,1,2,5]=some vg:=by kernel_rfl
abbrev F302.fr:=fr7
def F302.b0:IR:=dI [] 18661299829637160024838816081930570782025729235245768677424536902636315775718698559644717860638000702456576469233607223368331112874085282264419317310887041070683270549892500944253303426083829605536982306990667038208044872832632558762447699683523121755079
def F302.res:List RV:=[]
def F302:Fn:={ params:=[(.of 0),(.of 1),(.of 2)],res:=F302.res,body:=F302.b0,init:=in7 }
theorem F302.ok:fnA Tryz.prog Tryz.f302 [0,1,2,6,7,12,30]=some F302:=by kernel_rfl
abbrev F308.fr:=fr3
def F308.b0:IR:=dI [] 6759666965638778557417198881049466246291780008794342802823572851223
def F308.res:List RV:=[.t (.of 2)]
def F308:Fn:={ params:=[(.of 0),(.of 1)],res:=F308.res,body:=F308.b0,init:=in3 }
theorem F308.ok:fnA Tryz.prog Tryz.f308 [0,1,4]=some F308:=by kernel_rfl
abbrev F311.fr:=fr4
def F311.b0:IR:=dI [] 74676924429279145832286669669676425621647194427376724912673252695980846604225300003504141179882289498024087
def F311.res:List RV:=[.t (.of 1)]
def F311:Fn:={ params:=[(.of 0)],res:=F311.res,body:=F311.b0,init:=in4 }
theorem F311.ok:fnA Tryz.prog Tryz.f311 [0,2,4,8]=some F311:=by kernel_rfl
abbrev yo.fr:=fr5
def yo.t0:IR:=.reg [iQo 1 (.mv aC0)]
def yo.t1:IR:=.reg (dA [] 6934236663)
def yo.t2:IR:=.reg (dA [] 439327141361)
def yo.t3:IR:=.reg [iQo 1 (.mv aC32)]
def yo.t7:IR:=.reg (dA [] 48228371959)
def yo.t8:IR:=.reg (dA [] 877436874225)
def yo.t9:IR:=.reg (dA [] 659188977)
def yo.t13:IR:=.reg (dA [] 56818208247)
def yo.t14:IR:=.reg (dA [] 879584357873)
def yo.t15:IR:=.reg (dA [] 649489649)
def yo.t19:IR:=.reg (dA [] 2709278914353030751569827)
def yo.t20:IR:=.seq yo.t19 .ret
def yo.t21:IR:=.seq (.seq yo.t13 (.cond aT4 (.seq yo.t14 yo.t15) .skip)) yo.t20
def yo.t22:IR:=.seq (.seq yo.t7 (.cond aT3 (.seq yo.t8 yo.t9) .skip)) yo.t21
def yo.t24:IR:=.seq yo.t0 (.seq (.seq yo.t1 (.cond aT2 (.seq yo.t2 yo.t3) .skip)) yo.t22)
def yo.b0:IR:=yo.t24
def yo.res:List RV:=[.t (.of 1)]
def yo:Fn:={ params:=[(.of 0)],res:=yo.res,body:=yo.b0,init:=in5 }
theorem yo.ok:fnA Tryz.prog Tryz.f312 [0,2,4,8,14]=some yo:=by kernel_rfl
abbrev F313.fr:=fr4
def F313.b0:IR:=dI [] 46022994159665781116921927415044669497460863511
def F313.res:List RV:=[.t (.of 2)]
def F313:Fn:={ params:=[(.of 0),(.of 1)],res:=F313.res,body:=F313.b0,init:=in4 }
theorem F313.ok:fnA Tryz.prog Tryz.f313 [0,1,4,7]=some F313:=by kernel_rfl
abbrev zy.fr:=fr11
def zy.t0:IR:=.reg [iQo 2 (.mv (.c (.str [])))]
def zy.t1:IR:=.reg (dA [] 11265314039)
def zy.t2:IR:=.reg (dA [] 845483959040094928953680161370027)
def zy.t3:IR:=.reg (dA [] 376954353)
def zy.t7:IR:=.reg (dA [] 1703213)
def zy.t8:IR:=.reg (dA [] 35241457)
def zy.t9:IR:=.reg (dA [] 494603767)
def zy.t10:IR:=.reg (dA [] 70746097)
def zy.t13:IR:=.reg (dA [] 95243452401)
def zy.t14:IR:=.reg (dA [] 152909635956933050926299067)
def zy.t15:IR:=.reg (dA [] 494079479)
def zy.t16:IR:=.reg (dA [] 11729082874915199)
def zy.t17:IR:=.reg (dA [] 35696825705770186683)
def zy.t22:IR:=.reg (dA [] 142787921245013211067)
def zy.t26:IR:=.seq zy.t13 (.seq zy.t14 (.seq (.seq zy.t15 (.cond aT10 (.seq zy.t16 (.seq zy.t17 .ret)) .skip)) (.seq zy.t22 .ret)))
def zy.t29:IR:=.seq zy.t7 (.seq zy.t8 (.seq (.seq zy.t9 (.cond aT9 zy.t10 .skip)) zy.t26))
def zy.t38:IR:=.seq zy.t0 (.seq (.seq zy.t1 (.cond aT7 (.seq (.seq zy.t2 (.cond aT8 (.seq zy.t3 .ret) .skip)) zy.t29) .skip)) (.seq (.reg (dA [] 621280657003804103070607348402867860897091)) (.seq (.reg (dA [] 695)) .ret)))
def zy.b0:IR:=zy.t38
def zy.res:List RV:=[.t (.of 2)]
def zy:Fn:={ params:=[(.of 0),(.of 1)],res:=zy.res,body:=zy.b0,init:=in11 }
theorem zy.ok:fnA Tryz.prog Tryz.f314 [0,1,4,5,6,7,9,11,17,23,34]=some zy:=by kernel_rfl
abbrev vo.fr:=fr3
def vo.t0:IR:=.reg [iQo 1 (.mv (.c (.str [])))]
def vo.t1:IR:=.reg (dA [] 1408110071)
def vo.t2:IR:=.reg (dA [] 22091797050443681723)
def vo.t6:IR:=.reg (dA [] 96106306118316776862039764899)
def vo.t9:IR:=.seq vo.t0 (.seq (.seq vo.t1 (.cond aT2 (.seq vo.t2 .ret) .skip)) (.seq vo.t6 .ret))
def vo.b0:IR:=vo.t9
def vo.res:List RV:=[.t (.of 1)]
def vo:Fn:={ params:=[(.of 0)],res:=vo.res,body:=vo.b0,init:=in3 }
theorem vo.ok:fnA Tryz.prog Tryz.f315 [0,2,4]=some vo:=by kernel_rfl
abbrev cZ.fr:=fr3
def cZ.t0:IR:=.reg [iQo 1 (.mv aC0)]
def cZ.t1:IR:=.reg (dA [] 1588757153675219)
def cZ.t2:IR:=.reg (dA [] 11908155827264762708664208596715668315)
def cZ.t5:IR:=.seq cZ.t0 (.seq cZ.t1 (.seq cZ.t2 .ret))
def cZ.b0:IR:=cZ.t5
def cZ.res:List RV:=[.t (.of 1)]
def cZ:Fn:={ params:=[(.of 0)],res:=cZ.res,body:=cZ.b0,init:=in3 }
theorem cZ.ok:fnA Tryz.prog Tryz.f316 [0,2,3]=some cZ:=by kernel_rfl
abbrev zf.fr:=fr19
def zf.t0:IR:=.reg (dA [] 22001)
def zf.t1:IR:=.reg (dA [] 115330485303)
def zf.t4:IR:=.reg (dA [] 1409291132318675)
def zf.t5:IR:=.reg (dA [] 19500838129)
def zf.t6:IR:=.reg (dA [] 209742158201411211979179)
def zf.t7:IR:=.reg (dA [] 294303340451800840830003826593560459)
def zf.t8:IR:=.reg (dA [] 920897961542213721360448610349809547)
def zf.t9:IR:=dI [] 12159988938281969732177758050368143521828711000437762045947385082504601899878
def zf.t10:IR:=dI [] 389119646025023031429688257611780191285105178462078542876764535170244992275302
def zf.t11:IR:=dI [] 6225914336400368502875012121788481677712987359629288764106955827737730854392678
def zf.t12:IR:=dI [] 3112957168200184251437506060894242979728032738756368465214134440371936195220326
def zf.t13:IR:=.reg (dA [] 225225777)
def zf.t24:IR:=.seq (.seq zf.t1 (.cond aT15 .skip (.exit 0))) (.block 1 (.seq zf.t4 (.seq zf.t5 (.seq zf.t6 (.seq zf.t7 (.seq zf.t8 (.seq zf.t9 (.seq zf.t10 (.seq zf.t11 (.seq zf.t12 zf.t13))))))))))
def zf.t25:IR:=.loop zf.t24
def zf.t27:IR:=.reg (dA [] 100777201)
def zf.t28:IR:=.reg (dA [] 7149947959)
def zf.t29:IR:=.reg (dA [] 1070140210353)
def zf.t30:IR:=.reg (dA [] 211147340977)
def zf.t31:IR:=.reg (dA [] 6369794174076482110797707059975795083)
def zf.t32:IR:=dI [] 194559823012511515714844128805890278917310321520424872357176601229656115352422
def zf.t33:IR:=dI [] 6225914336400368502875012121788489014556911082776127854165786961350185221854054
def zf.t34:IR:=.reg (dA [] 13937713)
def zf.t42:IR:=.reg (dA [] 15201963063)
def zf.t43:IR:=.reg (dA [] 832261233335792339)
def zf.t44:IR:=.reg (dA [] 105920642225)
def zf.t45:IR:=dI [] 778239292050046062859376515223560526086962187838553710605826657804858531222374
def zf.t46:IR:=.reg (dA [] 29666353)
def zf.t52:IR:=.reg (dA [] 3918629943)
def zf.t53:IR:=.reg (dA [] 33292342318357484510826411)
def zf.t55:IR:=.seq zf.t52 (.cond aT18 zf.t53 .skip)
def zf.t56:IR:=.seq (.seq zf.t42 (.cond aT17 (.seq zf.t43 (.seq zf.t44 (.seq zf.t45 zf.t46))) .skip)) zf.t55
def zf.t60:IR:=.seq zf.t0 (.seq (.block 0 zf.t25) (.seq zf.t27 (.seq (.seq zf.t28 (.cond aT16 (.seq zf.t29 (.seq zf.t30 (.seq zf.t31 (.seq zf.t32 (.seq zf.t33 zf.t34))))) .skip)) zf.t56)))
def zf.b0:IR:=zf.t60
def zf.res:List RV:=[]
def zf:Fn:={ params:=[(.of 0),(.of 1)],res:=zf.res,body:=zf.b0,init:=in19 }
theorem zf.ok:fnA Tryz.prog Tryz.f317 [0,1,4,5,6,7,8,9,10,11,12,13,14,15,16,20,99,139,161]=some zf:=by kernel_rfl
end
end Go.Ev
