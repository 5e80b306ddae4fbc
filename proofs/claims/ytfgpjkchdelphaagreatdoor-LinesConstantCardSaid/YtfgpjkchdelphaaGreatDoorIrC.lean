import Derived.Test.YtfgpjkchdelphaaGreatDoorIrA
import Derived.Test.YtfgpjkchdelphaaGreatDoorEvC
import Derived.Test.YtfgpjkchdelphaaGreatDoorProg
import Derived.KernelRfl
set_option linter.unusedSimpArgs false
set_option linter.unusedVariables false
namespace Go.Ev
open Go Go.Proofs
set_option maxRecDepth 100000
noncomputable section

abbrev jo.fr:=fr5
def jo.t0:IR:=.reg [iQo 1 (.mv aC0)]
def jo.t1:IR:=.reg [iQo 2 (.mv aC0)]
def jo.t2:IR:=.reg (dA [] 12069680967658)
def jo.t5:IR:=.reg (dA [] 275191555932812266)
def jo.t6:IR:=.reg (dA [] 46072)
def jo.t11:IR:=.reg (dA [] 6119414)
def jo.t13:IR:=.seq (.seq jo.t2 (.cond aT3 .skip (.exit 0))) (.seq (.block 1 (.seq jo.t5 (.cond aT4 (.seq jo.t6 .ret) .skip))) jo.t11)
def jo.t14:IR:=.loop jo.t13
def jo.t17:IR:=.reg (dA [] 23102966)
def jo.t20:IR:=.seq jo.t0 (.seq (.seq jo.t1 (.block 0 jo.t14)) (.seq jo.t17 .ret))
def jo.b0:IR:=jo.t20
def jo.res:List RV:=[.t (.of 1)]
def jo:Fn:={ params:=[(.of 0)],res:=jo.res,body:=jo.b0,init:=in5 }
theorem jo.ok:fnA Tryz.prog Tryz.f206 [0,2,3,7,13]=some jo:=by kernel_rfl
abbrev kz.fr:=fr5
def kz.t0:IR:=.reg [iQo 2 (.mv (.c .za))]
def kz.t1:IR:=.reg (dA [] 11987768566)
def kz.t4:IR:=.reg (dA [] 274422547396765010225106)
def kz.t5:IR:=.reg (dA [] 47449190890)
def kz.t8:IR:=.seq (.seq kz.t1 (.cond aT4 .skip (.exit 0))) (.block 1 (.seq kz.t4 kz.t5))
def kz.t9:IR:=.loop kz.t8
def kz.t11:IR:=.reg (dA [] 248)
def kz.t14:IR:=.seq kz.t0 (.seq (.block 0 kz.t9) (.seq kz.t11 .ret))
def kz.b0:IR:=kz.t14
def kz.res:List RV:=[.t (.of 2)]
def kz:Fn:={ params:=[(.of 0),(.of 1)],res:=kz.res,body:=kz.b0,init:=in5 }
theorem kz.ok:fnA Tryz.prog Tryz.f208 [0,1,4,6,9]=some kz:=by kernel_rfl
abbrev uf.fr:=fr5
def uf.t0:IR:=.reg [iQo 1 (.mv aC0)]
def uf.t1:IR:=.reg [iQo 2 (.mv aC0)]
def uf.t2:IR:=.reg [iQo 3 (.mv aC0)]
def uf.t3:IR:=.reg (dA [] 6021955580522)
def uf.t6:IR:=.reg (dA [] 122497705968399642267353698893762)
def uf.t8:IR:=.reg (dA [] 170831158)
def uf.t10:IR:=.seq (.seq uf.t3 (.cond aT4 .skip (.exit 0))) (.seq (.block 1 uf.t6) uf.t8)
def uf.t11:IR:=.loop uf.t10
def uf.t14:IR:=.reg (dA [] 46072)
def uf.t18:IR:=.seq uf.t0 (.seq uf.t1 (.seq (.seq uf.t2 (.block 0 uf.t11)) (.seq uf.t14 .ret)))
def uf.b0:IR:=uf.t18
def uf.res:List RV:=[.t (.of 1)]
def uf:Fn:={ params:=[(.of 0)],res:=uf.res,body:=uf.b0,init:=in5 }
theorem uf.ok:fnA Tryz.prog Tryz.f209 [0,2,3,4,8]=some uf:=by kernel_rfl
abbrev qp.fr:=fr4
def qp.t0:IR:=.reg [iQo 2 (.mv aC0)]
def qp.t1:IR:=.reg (dA [] 46876280)
def qp.t4:IR:=dI [] 30709331556181821724619890
def qp.t6:IR:=.seq (.seq qp.t1 (.cond aT3 .skip (.exit 0))) (.block 1 qp.t4)
def qp.t7:IR:=.loop qp.t6
def qp.t9:IR:=.reg (dA [] 248)
def qp.t12:IR:=.seq qp.t0 (.seq (.block 0 qp.t7) (.seq qp.t9 .ret))
def qp.b0:IR:=qp.t12
def qp.res:List RV:=[.t (.of 2)]
def qp:Fn:={ params:=[(.of 0),(.of 1)],res:=qp.res,body:=qp.b0,init:=in4 }
theorem qp.ok:fnA Tryz.prog Tryz.f210 [0,1,4,6]=some qp:=by kernel_rfl
abbrev jc.fr:=fr5
def jc.t0:IR:=.reg [iQo 2 (.mv (.c (.str [])))]
def jc.t1:IR:=.reg [iQo 3 (.mv (.c (.str [])))]
def jc.zuk (r:List RO):List RO:=dA r 265651582690313106427035364387562305490
def jc.r2_0:List RO:=jc.zuk []
def jc.t2:IR:=.reg jc.r2_0
def jc.t3:IR:=.cond aT4 .skip (.exit 0)
def jc.t5:IR:=.reg (dA [] 213858798930317519724653274800418174914)
def jc.t6:IR:=.reg (dA [] 13614132726)
def jc.t8:IR:=.block 1 (.seq jc.t5 jc.t6)
def jc.t9:IR:=.seq (.seq jc.t2 jc.t3) jc.t8
def jc.t10:IR:=.loop jc.t9
def jc.t12:IR:=.reg (dA [] 152)
def jc.t13:IR:=.seq jc.t12 .ret
def jc.t16:IR:=.seq jc.t0 (.seq jc.t1 (.seq (.block 0 jc.t10) jc.t13))
def jc.b0:IR:=jc.t16
def jc.res:List RV:=[.t (.of 2)]
def jc:Fn:={ params:=[(.of 0),(.of 1)],res:=jc.res,body:=jc.b0,init:=in5 }
theorem jc.ok:fnA Tryz.prog Tryz.f211 [0,1,4,5,13]=some jc:=by kernel_rfl
abbrev nk.fr:=fr3
def nk.t0:IR:=.reg (dA [] 4142267084)
def nk.t1:IR:=.reg (dA [] 2463967054649188343126899105)
def nk.t3:IR:=.seq nk.t0 (.seq nk.t1 .ret)
def nk.b0:IR:=nk.t3
def nk.res:List RV:=[.cell (.of 2) (some 2)]
def nk:Fn:={ params:=[(.of 0)],res:=nk.res,body:=nk.b0,init:=in3 }
theorem nk.ok:fnA Tryz.prog Tryz.f212 [0,1,2]=some nk:=by kernel_rfl
abbrev qh.fr:=fr29
def qh.t0:IR:=.reg (dA [] 7767872)
def qh.t1:IR:=.reg (dA [] 3300089806207120362)
def qh.t2:IR:=.reg (dA [] 42418678)
def qh.t6:IR:=.reg (dA [] 805118072054)
def qh.t7:IR:=.reg (dA [] 4469037215255981014809013886793)
def qh.t8:IR:=.reg (dA [] 49474964160996661780689)
def qh.t109:IR:=.seq qh.t0 (.seq (.seq qh.t1 (.cond aT21 (.seq qh.t2 .ret) .skip)) (.seq (.seq qh.t6 (.cond aT22 (.seq qh.t7 (.seq qh.t8 .ret)) .skip)) (.seq (.reg (dA [] 3025321726903904399066874378478653257)) (.seq (.reg (dA [] 246717613978090)) (.seq (.reg (dA [] 32616246)) (.seq (.reg (dA [] 21672111474352343799855153)) (.seq (.block 0 (.loop (.seq (.seq (.reg (dA [] 1141852603794596916945)) (.cond aT23 .skip (.exit 0))) (.block 1 (.reg (dA [] 4743407887948724074)))))) (.seq (.reg (dA [] 1773912808130763124433)) (.seq (.seq (.reg (dA [] 4349470529465183953)) (.block 2 (.loop (.seq (.seq (.reg (dA [] 6051535128)) (.cond aT24 .skip (.exit 2))) (.seq (.block 3 (.seq (.reg (dA [] 249163694181992476377)) (iSr [(iQo 13 (.mv aC0))] (.seq (iSr [(iQo 14 (.mv aC0))] (.block 4 (.loop (.seq (.seq (.reg (dA [] 2177848026870)) (.cond aT25 .skip (.exit 4))) (.seq (.block 5 (.seq (.reg (dA [] 116437493889827464325304100546)) (.seq (.reg (dA [] 1028935293418011775986029811732495177)) (.seq (.reg (dA [] 1173523460278)) (.seq (.seq (.reg (dA [] 12311096600)) (.cond aT26 (.seq (.reg (dA [] 851064838710)) (.reg (dA [] 4587875126))) .skip)) (.reg (dA [] 133156528907920743096364737))))))) (.reg (dA [] 18839430902))))))) (.seq (.reg ((iSm 9)::((iSm 11)::((iSm 8)::((.s (.bin .add .int aS1 aS0))::((iSm 9)::((iSm 11)::((iSm 8)::((.s (.bin .add .int aS1 aS0))::((.s (.ax 1 aS3 aS0))::((.s (.load aS0))::((iSm 13)::((.s (.bin .sub .int aS1 aS0))::((.s (.ax 1 aS11 aS8))::((.w .none none (.store 1 aS0 aS1))::[]))))))))))))))) (.seq (.seq (.reg (dA [] 13898842210057156939591361)) (.cond aT27 (.seq (.reg (dA [] 29039487414)) (iSr [(iQo 17 (.mv aC0))] (.seq (iSr [(iQo 18 (.mv aC0))] (.block 6 (.loop (.seq (.seq (.reg (dA [] 4290435070518)) (.cond aT28 .skip (.exit 6))) (.seq (.block 7 (.seq (.sD [] (((iSm 9)::((iSm 18)::((iSm 11)::((.s (.bin .add .int aS1 aS0))::((.s (.ax 1 aS3 aS0))::((.s (.load aS0))::((iSm 7)::((iSm 18)::((.s (.ax 1 aS1 aS0))::((.s (.load aS0))::((.s (.bin .add .int aS4 aS0))::((iSm 17)::((.s (.bin .add .int aS1 aS0))::((iQm 19 0)::[])))))))))))))).map λo=>(o,0,[]))) (.seq (.reg (dA [] 1117064939193378871493024180973266)) (.reg (dA [] 2621924815734))))) (.reg (dA [] 46219852342))))))) (.reg ((iSm 9)::((iSm 11)::((iSm 8)::((.s (.bin .add .int aS1 aS0))::((iSm 9)::((iSm 11)::((iSm 8)::((.s (.bin .add .int aS1 aS0))::((.s (.ax 1 aS3 aS0))::((.s (.load aS0))::((iSm 17)::((.s (.bin .add .int aS1 aS0))::((.s (.ax 1 aS11 aS8))::((.w .none none (.store 1 aS0 aS1))::[])))))))))))))))))) .skip)) (.reg (dA [] 3968363734712290521)))))))) (.reg (dA [] 4050760246))))))) (.seq (.sD [] [((iSm 9),0,[]),((iSm 8),0,[]),((.s (.slice 1 aS1 none (some aS0) none)),0,[]),((iSm 6),1,[]),((.s (.ax 1 aS0 aC0)),1,[]),((.s (.load aS0)),1,[]),((iCa 269 [aS3]),0,[]),((iCa 268 [aS0,aS1]),0,[]),((.s (.mv aS0)),0,[]),((.s (.ext 0 aS0)),0,[]),((.s (.ext 1 aS1)),0,[]),((iQm 20 1),0,[]),((.s (.mv aS0)),0,[])]) (.seq (.reg (dA [] 363678285868944601)) .ret)))))))))))
def qh.b0:IR:=qh.t109
def qh.res:List RV:=[.t (.of 2),.t (.of 3)]
def qh:Fn:={ params:=[(.of 0),(.of 1)],res:=qh.res,body:=qh.b0,init:=in29 }
theorem qh.ok:fnA Tryz.prog Tryz.f213 [0,1,4,5,6,7,8,9,10,11,12,13,14,15,16,17,18,19,20,21,22,27,31,68,83,92,115,145,150]=some qh:=by kernel_rfl
abbrev bq.fr:=fr3
def bq.t0:IR:=.reg (dA [] 126413)
def bq.t1:IR:=.reg (dA [] 47615565046)
def bq.t2:IR:=.reg (dA [] 5548366779186965687254117359552052579575746)
def bq.t5:IR:=.seq bq.t0 (.seq bq.t1 (.seq bq.t2 .ret))
def bq.b0:IR:=bq.t5
def bq.res:List RV:=[.cell (.of 2) (some 2)]
def bq:Fn:={ params:=[(.of 0),(.of 1)],res:=bq.res,body:=bq.b0,init:=in3 }
theorem bq.ok:fnA Tryz.prog Tryz.f214 [0,1,4]=some bq:=by kernel_rfl
abbrev yh.fr:=fr9
def yh.t0:IR:=.reg [iQo 2 (.mv aC0)]
def yh.t1:IR:=.reg (dA [] 763640168011737)
def yh.t2:IR:=.reg (dA [] 771611627313113)
def yh.t3:IR:=.reg [iQo 2 (.mv (.c (I (-1))))]
def yh.t7:IR:=.reg [iQo 2 (.mv aC1)]
def yh.t12:IR:=.reg (dA [] 87450037226)
def yh.t13:IR:=.reg (dA [] 94520984)
def yh.t16:IR:=dI [] 4309568243932523850465633506088841394
def yh.t17:IR:=.reg [iQo 2 (.mv (.c (I (-1))))]
def yh.t21:IR:=dI [] 17231917333020679762641330192686641330
def yh.t22:IR:=.reg [iQo 2 (.mv aC1)]
def yh.t28:IR:=.reg (dA [] 341601590)
def yh.t30:IR:=.seq (.seq yh.t13 (.cond aT6 .skip (.exit 0))) (.seq (.block 1 (.seq (.seq yh.t16 (.cond aT7 (.seq yh.t17 .ret) .skip)) (.seq yh.t21 (.cond aT8 (.seq yh.t22 .ret) .skip)))) yh.t28)
def yh.t31:IR:=.loop yh.t30
def yh.t34:IR:=.reg [iQo 2 (.mv aC0)]
def yh.t38:IR:=.seq yh.t0 (.seq (.seq yh.t1 (.cond aT4 (.seq (.seq yh.t2 (.cond aT5 (.seq yh.t3 .ret) .skip)) (.seq yh.t7 .ret)) .skip)) (.seq (.seq yh.t12 (.block 0 yh.t31)) (.seq yh.t34 .ret)))
def yh.b0:IR:=yh.t38
def yh.res:List RV:=[.t (.of 2)]
def yh:Fn:={ params:=[(.of 0),(.of 1)],res:=yh.res,body:=yh.b0,init:=in9 }
theorem yh.ok:fnA Tryz.prog Tryz.f216 [0,1,4,5,10,15,20,31,40]=some yh:=by kernel_rfl
abbrev F219.fr:=fr9
def F219.b0:IR:=dI [] 6120610539233574075782506853820364899098999710106931707634556023697704665364886258543089175
def F219.res:List RV:=[.t (.of 2)]
def F219:Fn:={ params:=[(.of 0),(.of 1)],res:=F219.res,body:=F219.b0,init:=in9 }
theorem F219.ok:fnA Tryz.prog Tryz.f219 [0,1,4,5,7,8,9,10,11]=some F219:=by kernel_rfl
abbrev F220.fr:=fr3
def F220.b0:IR:=dI [] 3632996164104984415693619
def F220.res:List RV:=[.t (.of 2)]
def F220:Fn:={ params:=[(.of 0)],res:=F220.res,body:=F220.b0,init:=in3 }
theorem F220.ok:fnA Tryz.prog Tryz.f220 [0,1,2]=some F220:=by kernel_rfl
abbrev F221.fr:=fr3
def F221.b0:IR:=dI [] 58216011056954068320119603
def F221.res:List RV:=[.t (.of 2)]
def F221:Fn:={ params:=[(.of 0)],res:=F221.res,body:=F221.b0,init:=in3 }
theorem F221.ok:fnA Tryz.prog Tryz.f221 [0,1,2]=some F221:=by kernel_rfl
abbrev F222.fr:=fr3
def F222.b0:IR:=dI [] 29082256484605330232699699
def F222.res:List RV:=[.t (.of 2)]
def F222:Fn:={ params:=[(.of 0)],res:=F222.res,body:=F222.b0,init:=in3 }
theorem F222.ok:fnA Tryz.prog Tryz.f222 [0,1,2]=some F222:=by kernel_rfl
abbrev F223.fr:=fr3
def F223.b0:IR:=dI [] 58131598756072773411924787
def F223.res:List RV:=[.t (.of 2)]
def F223:Fn:={ params:=[(.of 0)],res:=F223.res,body:=F223.b0,init:=in3 }
theorem F223.ok:fnA Tryz.prog Tryz.f223 [0,1,2]=some F223:=by kernel_rfl
abbrev F224.fr:=fr3
def F224.b0:IR:=dI [] 85065636802876880293220396904325609415287312325115756658481921969516702515
def F224.res:List RV:=[.t (.of 2)]
def F224:Fn:={ params:=[(.of 0)],res:=F224.res,body:=F224.b0,init:=in3 }
theorem F224.ok:fnA Tryz.prog Tryz.f224 [0,1,2]=some F224:=by kernel_rfl
abbrev F225.fr:=fr6
def F225.b0:IR:=dI [] 381050625538500423025773973913237579581138083999159191030078792246322012596975437055290881898024543422352838411804613842045268175162630571341578424843438244872665742254407150387
def F225.res:List RV:=[.t (.of 2)]
def F225:Fn:={ params:=[(.of 0)],res:=F225.res,body:=F225.b0,init:=in6 }
theorem F225.ok:fnA Tryz.prog Tryz.f225 [0,1,2,3,4,13]=some F225:=by kernel_rfl
abbrev F226.fr:=fr6
def F226.b0:IR:=dI [] 1873891935905128457715481513390830347001487648668354576211249550128789476526903506047841936724830484060171059
def F226.res:List RV:=[.t (.of 2)]
def F226:Fn:={ params:=[(.of 0)],res:=F226.res,body:=F226.b0,init:=in6 }
theorem F226.ok:fnA Tryz.prog Tryz.f226 [0,1,2,5,8,13]=some F226:=by kernel_rfl
abbrev F227.fr:=fr3
def F227.b0:IR:=dI [] 4397827775344757095546241249193919299060777872179
def F227.res:List RV:=[.t (.of 2)]
def F227:Fn:={ params:=[(.of 0)],res:=F227.res,body:=F227.b0,init:=in3 }
theorem F227.ok:fnA Tryz.prog Tryz.f227 [0,1,2]=some F227:=by kernel_rfl
abbrev F228.fr:=fr8
def F228.b0:IR:=dI [] 5154829747311384600804559476154259269267797359185598569339398984715952089068018825057755686735089888405006933268747344746680096114216463404302553258122035
def F228.res:List RV:=[.cell (.of 3) (some 2)]
def F228:Fn:={ params:=[(.of 0),(.of 1)],res:=F228.res,body:=F228.b0,init:=in8 }
theorem F228.ok:fnA Tryz.prog Tryz.f228 [0,1,2,4,5,8,13,18]=some F228:=by kernel_rfl
abbrev ul.fr:=fr8
def ul.t0:IR:=.reg (dA [] 24756151381406)
def ul.t1:IR:=.reg (dA [] 797117619175358132005266193068574375346)
def ul.t2:IR:=.reg (dA [] 327350437877381553)
def ul.t3:IR:=.reg [iQo 4 (.mv (.c (I (-1))))]
def ul.t5:IR:=.reg (dA [] 1014817884121070001)
def ul.t6:IR:=.reg [iQo 4 (.mv aC1)]
def ul.t13:IR:=.reg [iQo 4 (.mv aC0)]
def ul.t21:IR:=.seq ul.t0 (.seq (.seq ul.t1 (.cond aT5 (.seq (.block 0 (.seq ul.t2 (.cond aT6 (.seq ul.t3 .ret) (.seq ul.t5 (.cond aT7 (.seq ul.t6 .ret) .skip))))) (.seq ul.t13 .ret)) .skip)) (.seq (.reg (dA [] 314936329149698752378809)) .ret))
def ul.b0:IR:=ul.t21
def ul.res:List RV:=[.t (.of 4)]
def ul:Fn:={ params:=[(.of 0),(.of 1)],res:=ul.res,body:=ul.b0,init:=in8 }
theorem ul.ok:fnA Tryz.prog Tryz.f229 [0,1,2,3,4,12,13,19]=some ul:=by kernel_rfl
abbrev F234.fr:=fr8
def F234.b0:IR:=dI [] 3141803293254294886439144503133582310926711408753779258425099200109496607778671684965911
def F234.res:List RV:=[.t (.of 2)]
def F234:Fn:={ params:=[(.of 0),(.of 1)],res:=F234.res,body:=F234.b0,init:=in8 }
theorem F234.ok:fnA Tryz.prog Tryz.f234 [0,1,4,5,7,8,9,16]=some F234:=by kernel_rfl
abbrev F235.fr:=fr15
def F235.b0:IR:=dI [] 121402904629637537194736907027333400294471160959389905238082257673950938493262207930422867531792023367096494682728653947047098222421737517099882234645087402761085997121755195937303671774530330360081815
def F235.res:List RV:=[.t (.of 1)]
def F235:Fn:={ params:=[(.of 0)],res:=F235.res,body:=F235.b0,init:=in15 }
theorem F235.ok:fnA Tryz.prog Tryz.f235 [0,2,3,5,6,8,9,10,11,12,20,25,26,27,28]=some F235:=by kernel_rfl
abbrev F236.fr:=fr5
def F236.b0:IR:=dI [] 1989258319507352928574580313798267
def F236.res:List RV:=[.t (.of 4)]
def F236:Fn:={ params:=[(.of 0),(.of 1)],res:=F236.res,body:=F236.b0,init:=in5 }
theorem F236.ok:fnA Tryz.prog Tryz.f236 [0,1,2,3,4]=some F236:=by kernel_rfl
abbrev F237.fr:=fr8
def F237.b0:IR:=dI [] 1908304683105931593182835852310212329373134647292601981745236486147320098724650246810766444934828674106074230167
def F237.res:List RV:=[.t (.of 1)]
def F237:Fn:={ params:=[(.of 0)],res:=F237.res,body:=F237.b0,init:=in8 }
theorem F237.ok:fnA Tryz.prog Tryz.f237 [0,2,3,5,6,7,8,9]=some F237:=by kernel_rfl
abbrev F238.fr:=fr4
def F238.b0:IR:=dI [] 7633516203740737176841879
def F238.res:List RV:=[.t (.of 3)]
def F238:Fn:={ params:=[(.of 0),(.of 1),(.of 2)],res:=F238.res,body:=F238.b0,init:=in4 }
theorem F238.ok:fnA Tryz.prog Tryz.f238 [0,1,2,4]=some F238:=by kernel_rfl
abbrev F239.fr:=fr4
def F239.b0:IR:=dI [] 7633520948078156276018839
def F239.res:List RV:=[.t (.of 3)]
def F239:Fn:={ params:=[(.of 0),(.of 1),(.of 2)],res:=F239.res,body:=F239.b0,init:=in4 }
theorem F239.ok:fnA Tryz.prog Tryz.f239 [0,1,2,4]=some F239:=by kernel_rfl
abbrev F242.fr:=fr2
def F242.b0:IR:=dI [] 58518968019209481623
def F242.res:List RV:=[.t (.of 1)]
def F242:Fn:={ params:=[(.of 0)],res:=F242.res,body:=F242.b0,init:=in2 }
theorem F242.ok:fnA Tryz.prog Tryz.f242 [0,2]=some F242:=by kernel_rfl
abbrev F243.fr:=fr2
def F243.b0:IR:=dI [] 81579959720348146543200161162439383003
def F243.res:List RV:=[]
def F243:Fn:={ params:=[(.of 0)],res:=F243.res,body:=F243.b0,init:=in2 }
theorem F243.ok:fnA Tryz.prog Tryz.f243 [0,2]=some F243:=by kernel_rfl
abbrev F244.fr:=fr8
def F244.b0:IR:=dI [] 50120341495148883508363260563340956662406157569626092543794860065557533307
def F244.res:List RV:=[]
def F244:Fn:={ params:=[(.of 0),(.of 1)],res:=F244.res,body:=F244.b0,init:=in8 }
theorem F244.ok:fnA Tryz.prog Tryz.f244 [0,1,4,5,6,7,8,14]=some F244:=by kernel_rfl
abbrev xq.fr:=fr8
def xq.b3:IR:=dI [] 91168370079111590760013481063029987684993887850055996903777399
def xq.b2:IR:=(.loop xq.b3)
def xq.g1 (X2:IR):IR:=(.block 0 X2)
def xq.b1:IR:=xq.g1 xq.b2
def xq.b8:IR:=dI [] 3312151
def xq.b0:IR:=dI [xq.b1,xq.b8] 103675920249878173207
def xq.res:List RV:=[.t (.of 2)]
def xq:Fn:={ params:=[(.of 0),(.of 1)],res:=xq.res,body:=xq.b0,init:=in8 }
theorem xq.ok:fnA Tryz.prog Tryz.f245 [0,1,4,5,7,8,9,16]=some xq:=by kernel_rfl
abbrev F246.fr:=fr3
def F246.b0:IR:=dI [] 11691332097729752193687516565505409921287528138766276075565951993897666298076260199219
def F246.res:List RV:=[.t (.of 2)]
def F246:Fn:={ params:=[(.of 0)],res:=F246.res,body:=F246.b0,init:=in3 }
theorem F246.ok:fnA Tryz.prog Tryz.f246 [0,1,2]=some F246:=by kernel_rfl
abbrev jh.fr:=fr8
def jh.t0:IR:=.reg [iQo 2 (.mv aC0)]
def jh.t1:IR:=.reg (dA [] 1535469046)
def jh.t2:IR:=.reg (dA [] 3143965)
def jh.t4:IR:=.reg (dA [] 20984)
def jh.t5:IR:=.reg (dA [] 17851204353331028945)
def jh.t6:IR:=.reg (dA [] 152)
def jh.t12:IR:=.reg (dA [] 29745068)
def jh.t15:IR:=.seq jh.t2 (.seq (.cond aT6 .skip (.exit 0)) (.seq (.block 1 (.seq jh.t4 (.seq jh.t5 (.cond aT7 (.seq jh.t6 .ret) .skip)))) jh.t12))
def jh.t16:IR:=.loop jh.t15
def jh.t19:IR:=.reg [iQo 2 (.mv (.c (I (-1))))]
def jh.t22:IR:=.seq jh.t0 (.seq (.seq jh.t1 (.block 0 jh.t16)) (.seq jh.t19 .ret))
def jh.b0:IR:=jh.t22
def jh.res:List RV:=[.t (.of 2)]
def jh:Fn:={ params:=[(.of 0),(.of 1)],res:=jh.res,body:=jh.b0,init:=in8 }
theorem jh.ok:fnA Tryz.prog Tryz.f247 [0,1,4,5,7,8,9,16]=some jh:=by kernel_rfl
abbrev F248.fr:=fr2
def F248.b0:IR:=dI [] 3658488565437197719
def F248.res:List RV:=[.t (.of 1)]
def F248:Fn:={ params:=[(.of 0)],res:=F248.res,body:=F248.b0,init:=in2 }
theorem F248.ok:fnA Tryz.prog Tryz.f248 [0,2]=some F248:=by kernel_rfl
abbrev F249.fr:=fr6
def F249.b0:IR:=dI [] 157942144341420113450371429799274216039971270689184078944861090049613709541922526686706932252024270015243771521911394471993665250468550267
def F249.res:List RV:=[.t (.of 2),.t (.of 3)]
def F249:Fn:={ params:=[(.of 0)],res:=F249.res,body:=F249.b0,init:=in6 }
theorem F249.ok:fnA Tryz.prog Tryz.f249 [0,1,2,3,4,13]=some F249:=by kernel_rfl
abbrev qa.fr:=fr4
def qa.t0:IR:=.reg [iQo 1 (.mv aC0)]
def qa.t1:IR:=.reg (dA [] 7743473400)
def qa.t2:IR:=.reg [iQo 1 (.mv aC0)]
def qa.t6:IR:=.reg (dA [] 1594310804800328082424640618544115095506)
def qa.t7:IR:=.reg [iQo 1 (.mv (.c (I (-1))))]
def qa.t11:IR:=.reg [iQo 1 (.mv aC1)]
def qa.t15:IR:=.seq qa.t0 (.seq (.seq qa.t1 (.cond aT2 (.seq qa.t2 .ret) .skip)) (.seq (.seq qa.t6 (.cond aT3 (.seq qa.t7 .ret) .skip)) (.seq qa.t11 .ret)))
def qa.b0:IR:=qa.t15
def qa.res:List RV:=[.t (.of 1)]
def qa:Fn:={ params:=[(.of 0)],res:=qa.res,body:=qa.b0,init:=in4 }
theorem qa.ok:fnA Tryz.prog Tryz.f255 [0,2,4,12]=some qa:=by kernel_rfl
abbrev ug.fr:=fr5
def ug.t0:IR:=.reg [iQo 1 (.mv (.c .za))]
def ug.t1:IR:=.reg [iQo 2 (.mv (.c .za))]
def ug.t2:IR:=.reg [iQo 3 (.mv aC0)]
def ug.t3:IR:=.reg (dA [] 1505500721770)
def ug.t6:IR:=.reg (dA [] 1196985443348000598111658030283075425992521)
def ug.t8:IR:=.reg (dA [] 170831158)
def ug.t10:IR:=.seq (.seq ug.t3 (.cond aT4 .skip (.exit 0))) (.seq (.block 1 ug.t6) ug.t8)
def ug.t11:IR:=.loop ug.t10
def ug.t14:IR:=.reg (dA [] 46072)
def ug.t18:IR:=.seq ug.t0 (.seq ug.t1 (.seq (.seq ug.t2 (.block 0 ug.t11)) (.seq ug.t14 .ret)))
def ug.b0:IR:=ug.t18
def ug.res:List RV:=[.t (.of 1)]
def ug:Fn:={ params:=[(.of 0)],res:=ug.res,body:=ug.b0,init:=in5 }
theorem ug.ok:fnA Tryz.prog Tryz.f256 [0,2,3,4,8]=some ug:=by kernel_rfl
abbrev uo.fr:=fr7
def uo.t0:IR:=.reg (dA [] 434942708018590)
def uo.t1:IR:=dI [] 2143464632157796403105997474504660727229554
def uo.t2:IR:=.reg (dA [] 12791947546021358)
def uo.t5:IR:=.reg (dA [] 2435792581348472618100820817526523487575753)
def uo.t6:IR:=dI [] 237972378709131065746192050
def uo.t9:IR:=.seq (.seq uo.t2 (.cond aT6 .skip (.exit 0))) (.block 1 (.seq uo.t5 uo.t6))
def uo.t10:IR:=.loop uo.t9
def uo.t12:IR:=.reg (dA [] 227147508)
def uo.t16:IR:=.seq uo.t0 (.seq uo.t1 (.seq (.block 0 uo.t10) (.seq uo.t12 .ret)))
def uo.b0:IR:=uo.t16
def uo.res:List RV:=[.cell (.of 4) (some 2)]
def uo:Fn:={ params:=[(.of 0),(.of 1)],res:=uo.res,body:=uo.b0,init:=in7 }
theorem uo.ok:fnA Tryz.prog Tryz.f258 [0,1,2,3,4,6,13]=some uo:=by kernel_rfl
abbrev qw.fr:=fr7
def qw.t0:IR:=.reg (dA [] 434942708018590)
def qw.t1:IR:=.reg (dA [] 6458760570031598)
def qw.t2:IR:=dI [] 2143464632157796371069462777335427096243314
def qw.t5:IR:=.reg (dA [] 2331899207356988832033862037261951963225801)
def qw.t6:IR:=.reg (dA [] 227114740)
def qw.t8:IR:=.seq qw.t5 (.seq qw.t6 .ret)
def qw.t10:IR:=.seq qw.t0 (.seq (.seq qw.t1 (.cond aT6 qw.t2 .skip)) qw.t8)
def qw.b0:IR:=qw.t10
def qw.res:List RV:=[.cell (.of 4) (some 2)]
def qw:Fn:={ params:=[(.of 0),(.of 1)],res:=qw.res,body:=qw.b0,init:=in7 }
theorem qw.ok:fnA Tryz.prog Tryz.f259 [0,1,2,3,4,5,9]=some qw:=by kernel_rfl
abbrev jf.fr:=fr12
def jf.t0:IR:=.reg (dA [] 6197702976)
def jf.t1:IR:=.reg (dA [] 305407258102)
def jf.t2:IR:=.reg (dA [] 60388552182)
def jf.t3:IR:=.reg (dA [] 1267479932150)
def jf.t4:IR:=.reg (dA [] 120518094070)
def jf.t5:IR:=.reg (dA [] 533018292330)
def jf.t6:IR:=.reg (dA [] 327819313815154987552705)
def jf.t7:IR:=.reg (dA [] 3420652288950)
def jf.t8:IR:=.reg (dA [] 516432116662)
def jf.t9:IR:=.reg (dA [] 882050671099088081)
def jf.t10:IR:=.reg (dA [] 26830814741227017589405568962)
def jf.t11:IR:=.reg (dA [] 43170722794)
def jf.t23:IR:=.seq jf.t0 (.seq jf.t1 (.seq jf.t2 (.seq jf.t3 (.seq jf.t4 (.seq jf.t5 (.seq jf.t6 (.seq jf.t7 (.seq jf.t8 (.seq jf.t9 (.seq jf.t10 (.seq jf.t11 .ret)))))))))))
def jf.b0:IR:=jf.t23
def jf.res:List RV:=[.t (.of 2),.t (.of 3)]
def jf:Fn:={ params:=[(.of 0),(.of 1)],res:=jf.res,body:=jf.b0,init:=in12 }
theorem jf.ok:fnA Tryz.prog Tryz.f263 [0,1,4,5,6,7,8,9,10,11,12,13]=some jf:=by kernel_rfl
abbrev vo.fr:=fr3
def vo.t0:IR:=.reg (dA [] 756581)
def vo.t1:IR:=.reg (dA [] 11994872)
def vo.t2:IR:=.reg (dA [] 762822593514)
def vo.t6:IR:=.reg (dA [] 186236406)
def vo.t9:IR:=.seq vo.t0 (.seq (.seq vo.t1 (.cond aT2 (.seq vo.t2 .ret) .skip)) (.seq vo.t6 .ret))
def vo.b0:IR:=vo.t9
def vo.res:List RV:=[.t (.of 1)]
def vo:Fn:={ params:=[(.of 0)],res:=vo.res,body:=vo.b0,init:=in3 }
theorem vo.ok:fnA Tryz.prog Tryz.f264 [0,2,4]=some vo:=by kernel_rfl
abbrev jd.fr:=fr9
def jd.t0:IR:=.reg (dA [] 3049280)
def jd.t1:IR:=.reg (dA [] 35364698696682)
def jd.t2:IR:=.reg [iQo 5 (.mv aC0)]
def jd.t3:IR:=.reg (dA [] 156169513962)
def jd.t4:IR:=.reg (dA [] 378506968)
def jd.t7:IR:=.reg (dA [] 34141952846537765520240594)
def jd.t8:IR:=.reg (dA [] 4161566712923332213956801)
def jd.t9:IR:=.reg (dA [] 241488752234)
def jd.t13:IR:=.reg (dA [] 1220074934)
def jd.t15:IR:=.seq (.seq jd.t4 (.cond aT8 .skip (.exit 0))) (.seq (.block 1 (.seq jd.t7 (.seq jd.t8 jd.t9))) jd.t13)
def jd.t16:IR:=.loop jd.t15
def jd.t19:IR:=.reg (dA [] 5682818741924057)
def jd.t24:IR:=.seq jd.t0 (.seq jd.t1 (.seq jd.t2 (.seq (.seq jd.t3 (.block 0 jd.t16)) (.seq jd.t19 .ret))))
def jd.b0:IR:=jd.t24
def jd.res:List RV:=[.t (.of 2),.t (.of 3)]
def jd:Fn:={ params:=[(.of 0),(.of 1)],res:=jd.res,body:=jd.b0,init:=in9 }
theorem jd.ok:fnA Tryz.prog Tryz.f268 [0,1,4,5,6,7,8,9,17]=some jd:=by kernel_rfl
abbrev gq.fr:=fr3
def gq.t0:IR:=.reg [iQo 1 (.mv (.c .za))]
def gq.tH (r:List RO):List RO:=dA r 11861681148440162896353181808378
def gq.eF:List RO:=gq.tH []
def gq.tF (r:List RO):List RO:=dA r 3751876768333823117608738793150418
def gq.tX:List RO:=gq.tF gq.eF
def gq.t1:IR:=.reg gq.tX
def gq.t4:IR:=.reg (dA [] 28673883762282194897)
def gq.t6:IR:=.seq (.seq gq.t1 (.cond aT2 .skip (.exit 0))) (.block 1 gq.t4)
def gq.t7:IR:=.loop gq.t6
def gq.t9:IR:=.reg (dA [] 22776)
def gq.t12:IR:=.seq gq.t0 (.seq (.block 0 gq.t7) (.seq gq.t9 .ret))
def gq.b0:IR:=gq.t12
def gq.res:List RV:=[.t (.of 1)]
def gq:Fn:={ params:=[(.of 0)],res:=gq.res,body:=gq.b0,init:=in3 }
theorem gq.ok:fnA Tryz.prog Tryz.f269 [0,2,14]=some gq:=by kernel_rfl
abbrev F272.fr:=fr8
def F272.b0:IR:=dI [] 396812148539339713160610148017178025982338535264965787066267809027364325340687744551447
def F272.res:List RV:=[.t (.of 2)]
def F272:Fn:={ params:=[(.of 0),(.of 1)],res:=F272.res,body:=F272.b0,init:=in8 }
theorem F272.ok:fnA Tryz.prog Tryz.f272 [0,1,4,5,6,7,8,15]=some F272:=by kernel_rfl
abbrev F273.fr:=fr3
def F273.b0:IR:=dI [] 763612433994172721126034019948287993695034815253745453910946247788873471511
def F273.res:List RV:=[.t (.of 2)]
def F273:Fn:={ params:=[(.of 0),(.of 1)],res:=F273.res,body:=F273.b0,init:=in3 }
theorem F273.ok:fnA Tryz.prog Tryz.f273 [0,1,3]=some F273:=by kernel_rfl
abbrev F274.fr:=fr4
def F274.b0:IR:=dI [] 12580854183427977356371119208500922150323251619778848673786044063030143951220375
def F274.res:List RV:=[.t (.of 3)]
def F274:Fn:={ params:=[(.of 0),(.of 1),(.of 2)],res:=F274.res,body:=F274.b0,init:=in4 }
theorem F274.ok:fnA Tryz.prog Tryz.f274 [0,1,2,5]=some F274:=by kernel_rfl
abbrev F275.fr:=fr6
def F275.b0:IR:=dI [] 3965632770686742231520225745240147850560857661911211844338671571548432804255853063352360024631618969209194996918120381796105965180969929336941915010264490131044884609589315267072482567028629745303
def F275.res:List RV:=[.t (.of 3)]
def F275:Fn:={ params:=[(.of 0),(.of 1),(.of 2)],res:=F275.res,body:=F275.b0,init:=in6 }
theorem F275.ok:fnA Tryz.prog Tryz.f275 [0,1,2,4,5,6]=some F275:=by kernel_rfl
abbrev F276.fr:=fr6
def F276.b0:IR:=dI [] 21198406632605217545428037209235788014557020455681347666521373455785407982286366643719033987255468729684628954133753903573528059328819451715563159
def F276.res:List RV:=[.t (.of 3)]
def F276:Fn:={ params:=[(.of 0),(.of 1),(.of 2)],res:=F276.res,body:=F276.b0,init:=in6 }
theorem F276.ok:fnA Tryz.prog Tryz.f276 [0,1,2,4,5,6]=some F276:=by kernel_rfl
abbrev F277.fr:=fr6
def F277.b0:IR:=dI [] 1260954047063659941765027504834571261205253827897963266895679989346847333835962185595336541589079848948712574714306735795540218345705989012828569922971782607293802782208941169103906937551259162437984810032068264577895463069016386355
def F277.res:List RV:=[.cell (.of 2) (some 2)]
def F277:Fn:={ params:=[(.of 0)],res:=F277.res,body:=F277.b0,init:=in6 }
theorem F277.ok:fnA Tryz.prog Tryz.f277 [0,1,2,3,4,13]=some F277:=by kernel_rfl
abbrev F278.fr:=fr5
def F278.b0:IR:=dI [] 6897906416786745464014871573493728864674288958396308564009092925015763291648035350637736596339195702491671
def F278.res:List RV:=[.t (.of 2)]
def F278:Fn:={ params:=[(.of 0),(.of 1)],res:=F278.res,body:=F278.b0,init:=in5 }
theorem F278.ok:fnA Tryz.prog Tryz.f278 [0,1,4,6,16]=some F278:=by kernel_rfl
abbrev F279.fr:=fr8
def F279.b0:IR:=dI [] 4163835067103361332296424587264638172431971609794643246455449079043536799865666626220355142028413358800587059
def F279.res:List RV:=[]
def F279:Fn:={ params:=[(.of 0),(.of 1),(.of 2)],res:=F279.res,body:=F279.b0,init:=in8 }
theorem F279.ok:fnA Tryz.prog Tryz.f279 [0,1,2,4,5,6,7,15]=some F279:=by kernel_rfl
abbrev F280.fr:=fr5
def F280.b0:IR:=dI [] 6268702252781493288833502478183697427238723140363281750859602400488025215380759
def F280.res:List RV:=[.t (.of 4)]
def F280:Fn:={ params:=[(.of 0),(.of 1),(.of 2),(.of 3)],res:=F280.res,body:=F280.b0,init:=in5 }
theorem F280.ok:fnA Tryz.prog Tryz.f280 [0,1,2,3,5]=some F280:=by kernel_rfl
abbrev F282.fr:=fr7
def F282.b0:IR:=dI [] 10412948718116450089192701486724757388064849557977281203261659955
def F282.res:List RV:=[.t (.of 3)]
def F282:Fn:={ params:=[(.of 0),(.of 1)],res:=F282.res,body:=F282.b0,init:=in7 }
theorem F282.ok:fnA Tryz.prog Tryz.f282 [0,1,2,4,5,6,7]=some F282:=by kernel_rfl
abbrev F283.fr:=fr23
def F283.b0:IR:=dI [] 15590620569940022578624772867185201057186608174026399969522402884607920493515541644309350317842064229934981542081097880308469670704842826042264015229868330929761639737292961110573956195341797073187073444305669907669669211683414417680612212196128306040125183685079159276791032987530192621151021303675753813887896767044782159385975339149649880517442905190424680813531631832253279456921384104594367763587067091521218502963245057319834716184586040082490889754364403623443677844532767266624648196169709671758866825102736203937700791638375582530383158841053314027158654240303178758701407575381172562227042682943290772888332334062382152040433239319
def F283.res:List RV:=[]
def F283:Fn:={ params:=[(.of 0),(.of 1),(.of 2),(.of 3)],res:=F283.res,body:=F283.b0,init:=in23 }
theorem F283.ok:fnA Tryz.prog Tryz.f283 [0,1,2,3,8,9,10,11,12,13,14,15,16,17,18,23,29,35,50,68,72,87,113]=some F283:=by kernel_rfl
abbrev F284.fr:=fr2
def F284.b0:IR:=dI [] 269949823173307915306171835986433367447
def F284.res:List RV:=[.t (.of 1)]
def F284:Fn:={ params:=[(.of 0)],res:=F284.res,body:=F284.b0,init:=in2 }
theorem F284.ok:fnA Tryz.prog Tryz.f284 [0,2]=some F284:=by kernel_rfl
abbrev F285.fr:=fr5
def F285.b0:IR:=dI [] 26937042194427855827430764872354870042400445301870784576504763444575876728746307049264894085380176341811
def F285.res:List RV:=[.t (.of 2)]
def F285:Fn:={ params:=[(.of 0)],res:=F285.res,body:=F285.b0,init:=in5 }
theorem F285.ok:fnA Tryz.prog Tryz.f285 [0,1,2,4,12]=some F285:=by kernel_rfl
abbrev F286.fr:=fr3
def F286.b0:IR:=dI [] 442949076035553827351
def F286.res:List RV:=[.t (.of 2)]
def F286:Fn:={ params:=[(.of 0),(.of 1)],res:=F286.res,body:=F286.b0,init:=in3 }
theorem F286.ok:fnA Tryz.prog Tryz.f286 [0,1,4]=some F286:=by kernel_rfl
abbrev F287.fr:=fr2
def F287.b0:IR:=dI [] 1873909697488566513047
def F287.res:List RV:=[.t (.of 1)]
def F287:Fn:={ params:=[(.of 0)],res:=F287.res,body:=F287.b0,init:=in2 }
theorem F287.ok:fnA Tryz.prog Tryz.f287 [0,2]=some F287:=by kernel_rfl
abbrev di.fr:=fr4
def di.t0:IR:=.reg (dA [] 921041612)
def di.t1:IR:=.reg (dA [] 49295117934)
def di.t2:IR:=.reg (dA [] 8963860366573038)
def di.t6:IR:=.reg (dA [] 4274298612)
def di.t9:IR:=.seq di.t0 (.seq (.seq di.t1 (.cond aT3 (.seq di.t2 .ret) .skip)) (.seq di.t6 .ret))
def di.b0:IR:=di.t9
def di.res:List RV:=[.cell (.of 2) (some 2)]
def di:Fn:={ params:=[(.of 0)],res:=di.res,body:=di.b0,init:=in4 }
theorem di.ok:fnA Tryz.prog Tryz.f299 [0,1,2,5]=some di:=by kernel_rfl
abbrev F302.fr:=fr7
def F302.b0:IR:=dI [] 40078681197584127326516473791960018622935267872904580613434986056163851730941944168074933589007045176815349288800516068538913851565641728473519777685517213217668130952391923548197238342179968818904357558492615764994021782753704569370376813340701482890577921618907
def F302.res:List RV:=[]
def F302:Fn:={ params:=[(.of 0),(.of 1),(.of 2)],res:=F302.res,body:=F302.b0,init:=in7 }
theorem F302.ok:fnA Tryz.prog Tryz.f302 [0,1,2,6,7,12,30]=some F302:=by kernel_rfl
abbrev F308.fr:=fr3
def F308.b0:IR:=dI [] 5060128449678216189930446321351283106190464714656349497700746775063
def F308.res:List RV:=[.t (.of 2)]
def F308:Fn:={ params:=[(.of 0),(.of 1)],res:=F308.res,body:=F308.b0,init:=in3 }
theorem F308.ok:fnA Tryz.prog Tryz.f308 [0,1,4]=some F308:=by kernel_rfl
abbrev F311.fr:=fr4
def F311.b0:IR:=dI [] 58232152225216544177507073329736141851692160694811047135971745467512972194256365903934011079734112617848215
def F311.res:List RV:=[.t (.of 1)]
def F311:Fn:={ params:=[(.of 0)],res:=F311.res,body:=F311.b0,init:=in4 }
theorem F311.ok:fnA Tryz.prog Tryz.f311 [0,2,4,8]=some F311:=by kernel_rfl
abbrev F312.fr:=fr5
def F312.b0:IR:=dI [] 649310194568301094814413147624235324295960341480733572543639864233418082433348930006906659793346589115946140025605282661628283486944677112922721050007
def F312.res:List RV:=[.t (.of 1)]
def F312:Fn:={ params:=[(.of 0)],res:=F312.res,body:=F312.b0,init:=in5 }
theorem F312.ok:fnA Tryz.prog Tryz.f312 [0,2,4,8,14]=some F312:=by kernel_rfl
abbrev F313.fr:=fr4
def F313.b0:IR:=dI [] 4292578691966299826716142104472525944852421143
def F313.res:List RV:=[.t (.of 2)]
def F313:Fn:={ params:=[(.of 0),(.of 1)],res:=F313.res,body:=F313.b0,init:=in4 }
theorem F313.ok:fnA Tryz.prog Tryz.f313 [0,1,4,7]=some F313:=by kernel_rfl
abbrev F314.fr:=fr11
def F314.b0:IR:=dI [] 208503910505599003901958483494217834387121194190034292837866319375618008851684855161012831602404490335657282899085635983480277401057949041372779257095069184230509224650374879848790281140981072400274846132829365968535030751086825815623017871529105598045336897650253204026661399
def F314.res:List RV:=[.t (.of 2)]
def F314:Fn:={ params:=[(.of 0),(.of 1)],res:=F314.res,body:=F314.b0,init:=in11 }
theorem F314.ok:fnA Tryz.prog Tryz.f314 [0,1,4,5,6,7,9,11,17,23,34]=some F314:=by kernel_rfl
abbrev F315.fr:=fr3
def F315.b0:IR:=dI [] 44880982656556773522166144300010548740106596122547499127512462262319607191
def F315.res:List RV:=[.t (.of 1)]
def F315:Fn:={ params:=[(.of 0)],res:=F315.res,body:=F315.b0,init:=in3 }
theorem F315.ok:fnA Tryz.prog Tryz.f315 [0,2,4]=some F315:=by kernel_rfl
abbrev F316.fr:=fr3
def F316.b0:IR:=dI [] 163115069853952235301880229463258072504319307421237318802693527
def F316.res:List RV:=[.t (.of 1)]
def F316:Fn:={ params:=[(.of 0)],res:=F316.res,body:=F316.b0,init:=in3 }
theorem F316.ok:fnA Tryz.prog Tryz.f316 [0,2,3]=some F316:=by kernel_rfl
abbrev F317.fr:=fr19
def F317.b0:IR:=dI [] 108874632642030765964968942140829929436646559057521473265065704517992710619494801698901767803825488781528841295167457716566743453336242235538102110546269226302437199154394661257199316718901799686241295624671096085423064835550418960648067171194523513905074156760093441337342364736320124314941489872921755119016340773487798756764784503614864394947056266560167948232438580528787785539801364175396859627067588041577517560893415796025176320683863056841760366766657282036006683346115478779892812160917310347440093546837501768257894454064139191844607026551310461296666798814104383745938675511329239798319577397354144057722652538483622465772203537379305956720943710534142647721495092893369726086860022146369815541915535360834500545288857632286900202350307209232190973183681457857811642538560641761366056565069879150720594044955403987045431481245704655005211908330794522912561189879508328329948705754992590046972289233406721690363087259484393589324170973024437986747876595675
def F317.res:List RV:=[]
def F317:Fn:={ params:=[(.of 0),(.of 1)],res:=F317.res,body:=F317.b0,init:=in19 }
theorem F317.ok:fnA Tryz.prog Tryz.f317 [0,1,4,5,6,7,8,9,10,11,12,13,14,15,16,20,99,139,161]=some F317:=by kernel_rfl
abbrev F320.fr:=fr3
def F320.b0:IR:=dI [] 83070699849152955671704476358528071972064183418213053445229557167933975
def F320.res:List RV:=[.t (.of 2)]
def F320:Fn:={ params:=[(.of 0),(.of 1)],res:=F320.res,body:=F320.b0,init:=in3 }
theorem F320.ok:fnA Tryz.prog Tryz.f320 [0,1,4]=some F320:=by kernel_rfl
end
end Go.Ev
