import Derived.Test.YtlfhlkknakiafaaGreatDoorIrA
import Derived.Test.YtlfhlkknakiafaaGreatDoorEvC
import Derived.Test.YtlfhlkknakiafaaGreatDoorProg
import Derived.KernelRfl
set_option linter.unusedSimpArgs false
set_option linter.unusedVariables false
namespace Go.Ev
open Go Go.Proofs
set_option maxRecDepth 100000
noncomputable section

abbrev F98.fr:=fr4
def F98.t0:IR:=.reg (dA [] 1142226315835)
def F98.t1:IR:=dI [] 8009431671013347461831104601
def F98.t3:IR:=.seq F98.t0 (.seq F98.t1 .ret)
def F98.b0:IR:=F98.t3
def F98.res:List RV:=[.t (.of 2),.t (.of 3)]
def F98:Fn:={ params:=[(.of 0)],res:=F98.res,body:=F98.b0,init:=in4 }
theorem F98.ok:fnA Tryz.prog Tryz.f98 [0,1,2,3]=some F98:=by kernel_rfl
abbrev F99.fr:=fr3
def F99.t0:IR:=.reg (dA [] 570373407)
def F99.ze9 (r:List RO):List RO:=dA r 287699464755643483
def F99.r1_1:List RO:=F99.ze9 []
def F99.ze8 (r:List RO):List RO:=dA r 594081747353389626910128566916713
def F99.r1_0:List RO:=F99.ze8 F99.r1_1
def F99.t1:IR:=.reg F99.r1_0
def F99.t3:IR:=.seq F99.t0 (.seq F99.t1 .ret)
def F99.b0:IR:=F99.t3
def F99.res:List RV:=[.t (.of 2)]
def F99:Fn:={ params:=[(.of 0)],res:=F99.res,body:=F99.b0,init:=in3 }
theorem F99.ok:fnA Tryz.prog Tryz.f99 [0,1,2]=some F99:=by kernel_rfl
abbrev qy.fr:=fr10
def qy.b3:IR:=dI [] 53827934572507306120324435787967791132995795678221889065068304980688615095
def qy.b2:IR:=(.loop qy.b3)
def qy.g1 (X2:IR):IR:=(.block 0 X2)
def qy.b1:IR:=qy.g1 qy.b2
def qy.b8:IR:=dI [] 7140191
def qy.b0:IR:=dI [qy.b1,qy.b8] 2577584957463921088556361153396969616511
def qy.res:List RV:=[.t (.of 3)]
def qy:Fn:={ params:=[(.of 0),(.of 1)],res:=qy.res,body:=qy.b0,init:=in10 }
theorem qy.ok:fnA Tryz.prog Tryz.f100 [0,1,2,4,5,7,9,10,11,12]=some qy:=by kernel_rfl
abbrev qp.fr:=fr9
def qp.b4:IR:=dI [] 6013086090380712441474555480537955213515385199381608189196722618806637544794807
def qp.b3:IR:=(.loop qp.b4)
def qp.g2 (X3:IR):IR:=(.block 0 X3)
def qp.b2:IR:=qp.g2 qp.b3
def qp.b9:IR:=dI [] 1576951
def qp.b0:IR:=dI [qp.b2,qp.b9] 691914418590760383064541672086486874168267313143
def qp.res:List RV:=[.t (.of 2)]
def qp:Fn:={ params:=[(.of 0),(.of 1)],res:=qp.res,body:=qp.b0,init:=in9 }
theorem qp.ok:fnA Tryz.prog Tryz.f113 [0,1,4,5,10,12,13,14,24]=some qp:=by kernel_rfl
abbrev F115.fr:=fr3
def F115.b0:IR:=dI [] 39070440011026412655164230856640027548751500791
def F115.res:List RV:=[.t (.of 1)]
def F115:Fn:={ params:=[(.of 0)],res:=F115.res,body:=F115.b0,init:=in3 }
theorem F115.ok:fnA Tryz.prog Tryz.f115 [0,2,4]=some F115:=by kernel_rfl
abbrev aT.fr:=fr3
def aT.b0:IR:=dI [] 67683301399744515283030007
def aT.res:List RV:=[.t (.of 2)]
def aT:Fn:={ params:=[(.of 0),(.of 1)],res:=aT.res,body:=aT.b0,init:=in3 }
theorem aT.ok:fnA Tryz.prog Tryz.f127 [0,1,4]=some aT:=by kernel_rfl
abbrev qx.fr:=fr9
def qx.b3:IR:=dI [] 22400491276310570725380720177423365739987179803830055085490519304497847
def qx.b2:IR:=(.loop qx.b3)
def qx.g1 (X2:IR):IR:=(.block 0 X2)
def qx.b1:IR:=qx.g1 qx.b2
def qx.b8:IR:=dI [] 3151351
def qx.b0:IR:=dI [qx.b1,qx.b8] 5034339925254185412000929263962691063
def qx.res:List RV:=[.t (.of 1)]
def qx:Fn:={ params:=[(.of 0)],res:=qx.res,body:=qx.b0,init:=in9 }
theorem qx.ok:fnA Tryz.prog Tryz.f147 [0,2,3,4,7,8,9,10,17]=some qx:=by kernel_rfl
abbrev F154.fr:=fr4
def F154.b0:IR:=dI [] 25192925654753460475705324059189893444062361350453002274300681923591698210267897229272667155382250219126829018614808292327582171869489051104397164311551363686126719
def F154.res:List RV:=[.t (.of 2)]
def F154:Fn:={ params:=[(.of 0)],res:=F154.res,body:=F154.b0,init:=in4 }
theorem F154.ok:fnA Tryz.prog Tryz.f154 [0,1,2,3]=some F154:=by kernel_rfl
abbrev F156.fr:=fr2
def F156.b0:IR:=dI [] 1234347056229924531035130783491817178073524375
def F156.res:List RV:=[.cell (.of 1) (some 3)]
def F156:Fn:={ params:=[(.of 0)],res:=F156.res,body:=F156.b0,init:=in2 }
theorem F156.ok:fnA Tryz.prog Tryz.f156 [0,2]=some F156:=by kernel_rfl
abbrev F159.fr:=fr8
def F159.b0:IR:=dI [] 1695372954822325186054306537082870298128908517886408044190806509608420137512538590689544183
def F159.res:List RV:=[.t (.of 2)]
def F159:Fn:={ params:=[(.of 0),(.of 1)],res:=F159.res,body:=F159.b0,init:=in8 }
theorem F159.ok:fnA Tryz.prog Tryz.f159 [0,1,4,5,7,8,9,16]=some F159:=by kernel_rfl
abbrev aS.fr:=fr4
def aS.b0:IR:=dI [] 151902241205159773505279455287693207914088951
def aS.res:List RV:=[.t (.of 3)]
def aS:Fn:={ params:=[(.of 0),(.of 1),(.of 2)],res:=aS.res,body:=aS.b0,init:=in4 }
theorem aS.ok:fnA Tryz.prog Tryz.f160 [0,1,2,4]=some aS:=by kernel_rfl
abbrev F161.fr:=fr15
def F161.b0:IR:=dI [] 33519182309550831890353658602074987113962510030232075308173399703186524623182333559362966765154519333436458186095218750558751739073207808163523258271368915015465132652150543796686965616286605481441236471
def F161.res:List RV:=[.t (.of 1)]
def F161:Fn:={ params:=[(.of 0)],res:=F161.res,body:=F161.b0,init:=in15 }
theorem F161.ok:fnA Tryz.prog Tryz.f161 [0,2,3,5,6,8,9,10,11,12,20,25,26,27,28]=some F161:=by kernel_rfl
abbrev F162.fr:=fr9
def F162.b0:IR:=dI [] 35167235788410808784308233392330879939023497065806348565113616085025137031120912008656344504760761428159268217853652415615
def F162.res:List RV:=[.t (.of 3)]
def F162:Fn:={ params:=[(.of 0),(.of 1)],res:=F162.res,body:=F162.b0,init:=in9 }
theorem F162.ok:fnA Tryz.prog Tryz.f162 [0,1,3,4,5,6,7,8,9]=some F162:=by kernel_rfl
abbrev F163.fr:=fr9
def F163.b0:IR:=dI [] 562675772614572940548931734277294079024375953067389722973022974981888866459447962953786612453101680776147705460630325212287
def F163.res:List RV:=[.t (.of 3)]
def F163:Fn:={ params:=[(.of 0),(.of 1)],res:=F163.res,body:=F163.b0,init:=in9 }
theorem F163.ok:fnA Tryz.prog Tryz.f163 [0,1,3,4,5,6,7,8,9]=some F163:=by kernel_rfl
abbrev F164.fr:=fr5
def F164.b0:IR:=dI [] 4399524735316320084874566907291887
def F164.res:List RV:=[.t (.of 4)]
def F164:Fn:={ params:=[(.of 0),(.of 1)],res:=F164.res,body:=F164.b0,init:=in5 }
theorem F164.ok:fnA Tryz.prog Tryz.f164 [0,1,2,3,4]=some F164:=by kernel_rfl
abbrev F165.fr:=fr12
def F165.b0:IR:=dI [] 1089635083288504547045826108674028532512368897164609799368931990515914370143255281704429557692753441502267588782323605643993220227425997905406471726738460711240807988542179147389012848704955849924866431127
def F165.res:List RV:=[.cell (.of 2) (some 2)]
def F165:Fn:={ params:=[(.of 0),(.of 1)],res:=F165.res,body:=F165.b0,init:=in12 }
theorem F165.ok:fnA Tryz.prog Tryz.f165 [0,1,4,5,6,8,9,13,14,15,16,27]=some F165:=by kernel_rfl
abbrev aX.fr:=fr2
def aX.b0:IR:=dI [] 66186200133663977133540855
def aX.res:List RV:=[.t (.of 1)]
def aX:Fn:={ params:=[(.of 0)],res:=aX.res,body:=aX.b0,init:=in2 }
theorem aX.ok:fnA Tryz.prog Tryz.f166 [0,2]=some aX:=by kernel_rfl
abbrev qw.fr:=fr8
def qw.b3:IR:=dI [] 12327588292450462135467937848580213342685458132168990691931508407
def qw.b2:IR:=(.loop qw.b3)
def qw.g1 (X2:IR):IR:=(.block 0 X2)
def qw.b1:IR:=qw.g1 qw.b2
def qw.b8:IR:=dI [] 6981623
def qw.b0:IR:=dI [qw.b1,qw.b8] 279462288862966892535
def qw.res:List RV:=[.t (.of 2)]
def qw:Fn:={ params:=[(.of 0),(.of 1)],res:=qw.res,body:=qw.b0,init:=in8 }
theorem qw.ok:fnA Tryz.prog Tryz.f167 [0,1,4,5,7,8,9,16]=some qw:=by kernel_rfl
abbrev F168.fr:=fr3
def F168.b0:IR:=dI [] 8461477918790755855306743
def F168.res:List RV:=[.t (.of 2)]
def F168:Fn:={ params:=[(.of 0),(.of 1)],res:=F168.res,body:=F168.b0,init:=in3 }
theorem F168.ok:fnA Tryz.prog Tryz.f168 [0,1,3]=some F168:=by kernel_rfl
abbrev F170.fr:=fr4
def F170.b0:IR:=dI [] 4626306020950163345746200634439777218862000166632098240305995694630272477715513573529786589824986805175803344730310156691131559996376569589755576221445279355502923243665165275748369457171020728575203348415715019820820521079935
def F170.res:List RV:=[.t (.of 2)]
def F170:Fn:={ params:=[(.of 0)],res:=F170.res,body:=F170.b0,init:=in4 }
theorem F170.ok:fnA Tryz.prog Tryz.f170 [0,1,2,28]=some F170:=by kernel_rfl
abbrev F171.fr:=fr1
def F171.b0:IR:=dI [] 12722892108504235508039013066845130492371226958428311490686120796576991329756213934909409051090819611855204439264411191292246406694530354667617866726221919536436793079
def F171.res:List RV:=[.t (.of 0)]
def F171:Fn:={ params:=[],res:=F171.res,body:=F171.b0,init:=in1 }
theorem F171.ok:fnA Tryz.prog Tryz.f171 [0]=some F171:=by kernel_rfl
abbrev F172.fr:=fr6
def F172.b0:IR:=dI [] 18005622670047426819825512144043091534314360927929550023199854647623227466879952088516286871468856735333671706702058115809783
def F172.res:List RV:=[.t (.of 3)]
def F172:Fn:={ params:=[(.of 0),(.of 1),(.of 2)],res:=F172.res,body:=F172.b0,init:=in6 }
theorem F172.ok:fnA Tryz.prog Tryz.f172 [0,1,2,5,6,24]=some F172:=by kernel_rfl
abbrev F173.fr:=fr6
def F173.b0:IR:=dI [] 223400700053056809518441307024105353231261616601712645776039350257022447564743203717723617077384436354039
def F173.res:List RV:=[.t (.of 5)]
def F173:Fn:={ params:=[(.of 0),(.of 1),(.of 2),(.of 3),(.of 4)],res:=F173.res,body:=F173.b0,init:=in6 }
theorem F173.ok:fnA Tryz.prog Tryz.f173 [0,1,2,3,4,7]=some F173:=by kernel_rfl
abbrev F174.fr:=fr2
def F174.b0:IR:=dI [] 4882757809480315840478754931509366487018604023
def F174.res:List RV:=[.t (.of 1)]
def F174:Fn:={ params:=[(.of 0)],res:=F174.res,body:=F174.b0,init:=in2 }
theorem F174.ok:fnA Tryz.prog Tryz.f174 [0,2]=some F174:=by kernel_rfl
abbrev F175.fr:=fr10
def F175.b0:IR:=dI [] 6242988068753002891139932909661158301386132938436479374698723774466311024765659916861294455624777341953557286503975864268125126294008070547282855887352187586775475116202097307196412235663709739567641618582347506039165242747561682558496098898870762517631
def F175.res:List RV:=[.t (.of 3)]
def F175:Fn:={ params:=[(.of 0),(.of 1)],res:=F175.res,body:=F175.b0,init:=in10 }
theorem F175.ok:fnA Tryz.prog Tryz.f175 [0,1,2,4,5,6,7,8,19,20]=some F175:=by kernel_rfl
abbrev F176.fr:=fr5
def F176.b0:IR:=dI [] 77775920114780596619772160590525066201941328375
def F176.res:List RV:=[.t (.of 3)]
def F176:Fn:={ params:=[(.of 0),(.of 1),(.of 2)],res:=F176.res,body:=F176.b0,init:=in5 }
theorem F176.ok:fnA Tryz.prog Tryz.f176 [0,1,2,5,8]=some F176:=by kernel_rfl
abbrev F177.fr:=fr7
def F177.b0:IR:=dI [] 789694359184943717826699670358308140238897824174628996175553371976468516602368937186657271
def F177.res:List RV:=[.t (.of 6)]
def F177:Fn:={ params:=[(.of 0),(.of 1),(.of 2),(.of 3),(.of 4),(.of 5)],res:=F177.res,body:=F177.b0,init:=in7 }
theorem F177.ok:fnA Tryz.prog Tryz.f177 [0,1,2,3,4,5,8]=some F177:=by kernel_rfl
abbrev F178.fr:=fr4
def F178.b0:IR:=dI [] 152079546346906357270797719821853346143772461322374788223
def F178.res:List RV:=[.t (.of 3)]
def F178:Fn:={ params:=[(.of 0),(.of 1)],res:=F178.res,body:=F178.b0,init:=in4 }
theorem F178.ok:fnA Tryz.prog Tryz.f178 [0,1,2,4]=some F178:=by kernel_rfl
abbrev F179.fr:=fr19
def F179.b0:IR:=dI [] 553147332858688283990063536980254901697929440564230365790098625198869083888746143711330181609592506151544887277580945253011436245531677090816736958932995812500200269126260758750541364032721914241713353844279735415978684878171237065290024517764857572214843498418173357804838977656255756504386886300793124012471423
def F179.res:List RV:=[.t (.of 3)]
def F179:Fn:={ params:=[(.of 0),(.of 1)],res:=F179.res,body:=F179.b0,init:=in19 }
theorem F179.ok:fnA Tryz.prog Tryz.f179 [0,1,2,4,5,6,7,8,10,14,15,16,17,22,23,24,25,40,45]=some F179:=by kernel_rfl
abbrev F180.fr:=fr8
def F180.b0:IR:=dI [] 349438457414419875123766208698553250025173791022925677605148341544613181637593552441176523995334766886016474169725727512463097504491235675802535612993087727
def F180.res:List RV:=[.cell (.of 2) (some 3),.t (.of 3)]
def F180:Fn:={ params:=[(.of 0)],res:=F180.res,body:=F180.b0,init:=in8 }
theorem F180.ok:fnA Tryz.prog Tryz.f180 [0,1,2,3,4,5,9,16]=some F180:=by kernel_rfl
abbrev qj.fr:=fr14
def qj.b4:IR:=dI [] 9673031704125373922468277081389548370919497775554739092118064618203882743985450455246038017566973127599333532661877263538563123557090536665324694112748928468977504972819467682114799748059028285936787967577877116599
def qj.b3:IR:=(.loop qj.b4)
def qj.g2 (X3:IR):IR:=(.block 0 X3)
def qj.b2:IR:=qj.g2 qj.b3
def qj.b9:IR:=dI [] 79606192951749696478986257451416894691747449174439
def qj.b0:IR:=dI [qj.b2,qj.b9] 459856324438999859466505224379372876545648170931298848966998272907340628316571612287
def qj.res:List RV:=[.t (.of 3)]
def qj:Fn:={ params:=[(.of 0),(.of 1)],res:=qj.res,body:=qj.b0,init:=in14 }
theorem qj.ok:fnA Tryz.prog Tryz.f181 [0,1,2,4,5,6,7,8,16,17,18,19,20,48]=some qj:=by kernel_rfl
abbrev jr.fr:=fr9
def jr.t0:IR:=.reg [iQo 2 (.mv (.c .zn))]
def jr.t1:IR:=.reg (dA [] 446499911467)
def jr.t2:IR:=.reg (dA [] 2387882399227)
def jr.t3:IR:=.reg (dA [] 11713709)
def jr.t5:IR:=.reg (dA [] 53626664603)
def jr.t6:IR:=.reg (dA [] 520409983030150904259801)
def jr.t9:IR:=.reg (dA [] 247178631)
def jr.t12:IR:=.seq jr.t3 (.seq (.cond aT8 .skip (.exit 0)) (.seq (.block 1 (.seq jr.t5 jr.t6)) jr.t9))
def jr.t13:IR:=.loop jr.t12
def jr.t16:IR:=.reg (dA [] 261431)
def jr.t20:IR:=.seq jr.t0 (.seq jr.t1 (.seq (.seq jr.t2 (.block 0 jr.t13)) (.seq jr.t16 .ret)))
def jr.b0:IR:=jr.t20
def jr.res:List RV:=[.t (.of 2)]
def jr:Fn:={ params:=[(.of 0),(.of 1)],res:=jr.res,body:=jr.b0,init:=in9 }
theorem jr.ok:fnA Tryz.prog Tryz.f182 [0,1,4,5,7,10,11,12,13]=some jr:=by kernel_rfl
abbrev gm.fr:=fr11
def gm.t0:IR:=.reg (dA [] 359709)
def gm.t1:IR:=.reg (dA [] 9681615702523)
def gm.t2:IR:=.reg (dA [] 156659117)
def gm.t4:IR:=.reg (dA [] 1219569230157626059604514467)
def gm.t5:IR:=.reg (dA [] 323110135066510235)
def gm.t6:IR:=dI [] 181335878266619576812701366793969762083442200158938134787333704793
def gm.t11:IR:=.reg (dA [] 255563399)
def gm.t14:IR:=.seq gm.t2 (.seq (.cond aT9 .skip (.exit 0)) (.seq (.block 1 (.seq gm.t4 (.seq gm.t5 (.cond aT10 gm.t6 .skip)))) gm.t11))
def gm.t15:IR:=.loop gm.t14
def gm.t18:IR:=.seq gm.t0 (.seq gm.t1 (.block 0 gm.t15))
def gm.b0:IR:=gm.t18
def gm.res:List RV:=[]
def gm:Fn:={ params:=[(.of 0),(.of 1),(.of 2)],res:=gm.res,body:=gm.b0,init:=in11 }
theorem gm.ok:fnA Tryz.prog Tryz.f183 [0,1,2,4,6,7,8,9,10,11,17]=some gm:=by kernel_rfl
abbrev gq.fr:=fr10
def gq.t0:IR:=.reg (dA [] 175389)
def gq.t1:IR:=.reg (dA [] 2387882403323)
def gq.t2:IR:=.reg (dA [] 11713709)
def gq.t4:IR:=.reg (dA [] 493727741025509050224895395)
def gq.t5:IR:=.reg (dA [] 322811067903558555)
def gq.t6:IR:=.reg (dA [] 558784182157480264673302336058945)
def gq.t11:IR:=.reg (dA [] 247178631)
def gq.t14:IR:=.seq gq.t2 (.seq (.cond aT8 .skip (.exit 0)) (.seq (.block 1 (.seq gq.t4 (.seq gq.t5 (.cond aT9 gq.t6 .skip)))) gq.t11))
def gq.t15:IR:=.loop gq.t14
def gq.t18:IR:=.seq gq.t0 (.seq gq.t1 (.block 0 gq.t15))
def gq.b0:IR:=gq.t18
def gq.res:List RV:=[]
def gq:Fn:={ params:=[(.of 0),(.of 1)],res:=gq.res,body:=gq.b0,init:=in10 }
theorem gq.ok:fnA Tryz.prog Tryz.f184 [0,1,3,4,5,6,7,8,9,15]=some gq:=by kernel_rfl
abbrev fC.fr:=fr3
def fC.t0:IR:=.reg (dA [] 185808159)
def fC.t1:IR:=.reg (dA [] 9369702519826163069287312611)
def fC.t3:IR:=.seq fC.t0 (.seq fC.t1 .ret)
def fC.b0:IR:=fC.t3
def fC.res:List RV:=[.cell (.of 2) (some 4)]
def fC:Fn:={ params:=[(.of 0)],res:=fC.res,body:=fC.b0,init:=in3 }
theorem fC.ok:fnA Tryz.prog Tryz.f185 [0,1,2]=some fC:=by kernel_rfl
abbrev fF.fr:=fr3
def fF.t0:IR:=.reg (dA [] 17405)
def fF.t1:IR:=.reg (dA [] 18415187948425926233)
def fF.t3:IR:=.seq fF.t0 (.seq fF.t1 .ret)
def fF.b0:IR:=fF.t3
def fF.res:List RV:=[.t (.of 2)]
def fF:Fn:={ params:=[(.of 0),(.of 1)],res:=fF.res,body:=fF.b0,init:=in3 }
theorem fF.ok:fnA Tryz.prog Tryz.f186 [0,1,4]=some fF:=by kernel_rfl
abbrev jv.fr:=fr7
def jv.t0:IR:=.reg [iQo 1 (.mv (.c .zn))]
def jv.t1:IR:=.reg (dA [] 2251271838543659)
def jv.t2:IR:=.reg (dA [] 9393282667)
def jv.t3:IR:=.reg (dA [] 7287725)
def jv.t5:IR:=.reg (dA [] 212951)
def jv.t6:IR:=.reg (dA [] 260204991515439248600281)
def jv.t9:IR:=.reg (dA [] 125689479)
def jv.t12:IR:=.seq jv.t3 (.seq (.cond aT6 .skip (.exit 0)) (.seq (.block 1 (.seq jv.t5 jv.t6)) jv.t9))
def jv.t13:IR:=.loop jv.t12
def jv.t16:IR:=.reg (dA [] 442167)
def jv.t20:IR:=.seq jv.t0 (.seq jv.t1 (.seq (.seq jv.t2 (.block 0 jv.t13)) (.seq jv.t16 .ret)))
def jv.b0:IR:=jv.t20
def jv.res:List RV:=[.t (.of 1)]
def jv:Fn:={ params:=[(.of 0)],res:=jv.res,body:=jv.b0,init:=in7 }
theorem jv.ok:fnA Tryz.prog Tryz.f187 [0,2,3,4,8,9,10]=some jv:=by kernel_rfl
abbrev fB.fr:=fr3
def fB.t0:IR:=.reg (dA [] 185808159)
def fB.t1:IR:=dI [] 329666629983261402768935992610959150848089
def fB.t3:IR:=.seq fB.t0 (.seq fB.t1 .ret)
def fB.b0:IR:=fB.t3
def fB.res:List RV:=[.cell (.of 2) (some 4)]
def fB:Fn:={ params:=[(.of 0)],res:=fB.res,body:=fB.b0,init:=in3 }
theorem fB.ok:fnA Tryz.prog Tryz.f188 [0,1,2]=some fB:=by kernel_rfl
abbrev fA.fr:=fr3
def fA.t0:IR:=.reg (dA [] 185808159)
def fA.t1:IR:=dI [] 2398640513342384771214492421337
def fA.t3:IR:=.seq fA.t0 (.seq fA.t1 .ret)
def fA.b0:IR:=fA.t3
def fA.res:List RV:=[.cell (.of 2) (some 4)]
def fA:Fn:={ params:=[(.of 0)],res:=fA.res,body:=fA.b0,init:=in3 }
theorem fA.ok:fnA Tryz.prog Tryz.f189 [0,1,2]=some fA:=by kernel_rfl
abbrev cu.fr:=fr2
def cu.t0:IR:=.reg (dA [] 23077)
def cu.t1:IR:=.reg (dA [] 8067824890667)
def cu.t3:IR:=.seq cu.t0 (.seq cu.t1 .ret)
def cu.b0:IR:=cu.t3
def cu.res:List RV:=[.cell (.of 1) (some 2)]
def cu:Fn:={ params:=[(.of 0)],res:=cu.res,body:=cu.b0,init:=in2 }
theorem cu.ok:fnA Tryz.prog Tryz.f190 [0,2]=some cu:=by kernel_rfl
abbrev ja.fr:=fr14
def ja.t0:IR:=.reg (dA [] 195874082675259)
def ja.t1:IR:=.reg (dA [] 22995369802750135077479041199967626829417)
def ja.t2:IR:=.reg (dA [] 2161359232042243299)
def ja.t3:IR:=.reg (dA [] 1987496622260029014228624293705)
def ja.t4:IR:=.reg (dA [] 28230277687211)
def ja.t11:IR:=.reg (dA [] 17825160044350705633802017)
def ja.t12:IR:=.reg (dA [] 33240292410010534698891041)
def ja.t13:IR:=.reg (dA [] 1117080980767443)
def ja.t14:IR:=.reg (dA [] 508551059846075297992014136739)
def ja.t16:IR:=.reg (dA [] 931055677719135802073)
def ja.t17:IR:=.reg (dA [] 508551059846075298266892043683)
def ja.t24:IR:=.reg (dA [] 508551059846075298267176146595)
def ja.t28:IR:=.seq ja.t11 (.seq ja.t12 (.seq (.block 0 (.seq ja.t13 (.cond aT12 (.seq ja.t14 .ret) (.seq ja.t16 (.cond aT13 (.seq ja.t17 .ret) .skip))))) (.seq ja.t24 .ret)))
def ja.t30:IR:=.seq ja.t0 (.seq (.seq ja.t1 (.cond aT10 (.seq ja.t2 (.seq ja.t3 (.cond aT11 (.seq ja.t4 .ret) .skip))) .skip)) ja.t28)
def ja.b0:IR:=ja.t30
def ja.res:List RV:=[.cell (.of 4) (some 2)]
def ja:Fn:={ params:=[(.of 0),(.of 1)],res:=ja.res,body:=ja.b0,init:=in14 }
theorem ja.ok:fnA Tryz.prog Tryz.f191 [0,1,2,3,4,5,6,7,8,9,17,30,43,52]=some ja:=by kernel_rfl
abbrev jy.fr:=fr8
def jy.t0:IR:=.reg (dA [] 55136594319931)
def jy.t1:IR:=.reg (dA [] 39861122298977179)
def jy.t2:IR:=dI [] 8992028658366919801253842481348481882329
def jy.t5:IR:=.reg (dA [] 359277592491468482385356686081929682537)
def jy.t6:IR:=.reg (dA [] 241078151597375739082547)
def jy.t10:IR:=.reg (dA [] 153172101663845980008036153)
def jy.t11:IR:=dI [] 9779275339434948645792750952722662287570901820020476505
def jy.t13:IR:=.seq jy.t10 (.seq jy.t11 .ret)
def jy.t14:IR:=.seq (.seq jy.t5 (.cond aT7 (.seq jy.t6 .ret) .skip)) jy.t13
def jy.t16:IR:=.seq jy.t0 (.seq (.seq jy.t1 (.cond aT6 jy.t2 .skip)) jy.t14)
def jy.b0:IR:=jy.t16
def jy.res:List RV:=[.cell (.of 4) (some 4)]
def jy:Fn:={ params:=[(.of 0),(.of 1)],res:=jy.res,body:=jy.b0,init:=in8 }
theorem jy.ok:fnA Tryz.prog Tryz.f192 [0,1,2,3,4,5,8,20]=some jy:=by kernel_rfl
abbrev je.fr:=fr14
def je.t0:IR:=.reg (dA [] 195874082675259)
def je.t1:IR:=.reg (dA [] 22993375960756457703669685489377206312553)
def je.t2:IR:=dI [] 318157374897544233234340913642239055831862280106483018841
def je.t3:IR:=.reg (dA [] 172002697628150607486184785780387)
def je.t4:IR:=.reg (dA [] 487642387136327839355357793)
def je.t5:IR:=.reg (dA [] 1894501865976834843353)
def je.t9:IR:=.reg (dA [] 462524869627634387)
def je.t17:IR:=.reg (dA [] 18430655971826147956045601)
def je.t18:IR:=.reg (dA [] 76754685940365470196905761)
def je.t19:IR:=.reg (dA [] 34128283912266128171291838505250607817)
def je.t22:IR:=.seq je.t17 (.seq je.t18 (.seq je.t19 .ret))
def je.t24:IR:=.seq je.t0 (.seq (.seq je.t1 (.cond aT11 (.seq je.t2 (.seq je.t3 (.cond aT12 (.seq (.seq je.t4 (.cond aT13 (.seq je.t5 .ret) .skip)) (.seq je.t9 .ret)) .skip))) .skip)) je.t22)
def je.b0:IR:=je.t24
def je.res:List RV:=[.cell (.of 4) (some 2)]
def je:Fn:={ params:=[(.of 0),(.of 1)],res:=je.res,body:=je.b0,init:=in14 }
theorem je.ok:fnA Tryz.prog Tryz.f193 [0,1,2,3,4,5,6,7,8,9,10,18,34,41]=some je:=by kernel_rfl
abbrev cO.fr:=fr3
def cO.t0:IR:=.reg (dA [] 150943007)
def cO.t1:IR:=.reg (dA [] 151072513978937221108345)
def cO.t3:IR:=.seq cO.t0 (.seq cO.t1 .ret)
def cO.b0:IR:=cO.t3
def cO.res:List RV:=[.t (.of 2)]
def cO:Fn:={ params:=[(.of 0)],res:=cO.res,body:=cO.b0,init:=in3 }
theorem cO.ok:fnA Tryz.prog Tryz.f194 [0,1,2]=some cO:=by kernel_rfl
abbrev jo.fr:=fr8
def jo.t0:IR:=.reg [iQo 2 (.mv aC0)]
def jo.t1:IR:=.reg (dA [] 4696641323)
def jo.t2:IR:=.reg (dA [] 7287725)
def jo.t4:IR:=.reg (dA [] 212951)
def jo.t5:IR:=.reg (dA [] 2212831907260672490810019)
def jo.t6:IR:=.reg (dA [] 261431)
def jo.t12:IR:=.reg (dA [] 125689479)
def jo.t15:IR:=.seq jo.t2 (.seq (.cond aT6 .skip (.exit 0)) (.seq (.block 1 (.seq jo.t4 (.seq jo.t5 (.cond aT7 (.seq jo.t6 .ret) .skip)))) jo.t12))
def jo.t16:IR:=.loop jo.t15
def jo.t19:IR:=.reg [iQo 2 (.mv (.c (I (-1))))]
def jo.t22:IR:=.seq jo.t0 (.seq (.seq jo.t1 (.block 0 jo.t16)) (.seq jo.t19 .ret))
def jo.b0:IR:=jo.t22
def jo.res:List RV:=[.t (.of 2)]
def jo:Fn:={ params:=[(.of 0),(.of 1)],res:=jo.res,body:=jo.b0,init:=in8 }
theorem jo.ok:fnA Tryz.prog Tryz.f195 [0,1,4,5,7,8,9,16]=some jo:=by kernel_rfl
abbrev fE.fr:=fr5
def fE.t0:IR:=.reg (dA [] 17856278190651)
def fE.t1:IR:=dI [] 1311414128200907126607935222400270358289222145802133071643338763353
def fE.t3:IR:=.seq fE.t0 (.seq fE.t1 .ret)
def fE.b0:IR:=fE.t3
def fE.res:List RV:=[.t (.of 4)]
def fE:Fn:={ params:=[(.of 0),(.of 1)],res:=fE.res,body:=fE.b0,init:=in5 }
theorem fE.ok:fnA Tryz.prog Tryz.f196 [0,1,2,3,4]=some fE:=by kernel_rfl
abbrev yj.fr:=fr18
def yj.t0:IR:=.reg (dA [] 2920976106515117171)
def yj.ze9 (r:List RO):List RO:=dA r 1338437318689905428042465138649
def yj.r1_1:List RO:=yj.ze9 []
def yj.ze8 (r:List RO):List RO:=dA r 718484745204349595205398602978945113705
def yj.r1_0:List RO:=yj.ze8 yj.r1_1
def yj.t1:IR:=.reg yj.r1_0
def yj.t2:IR:=dI [] 42034333838702944264892732762330409702563408985
def yj.t3:IR:=.reg (dA [] 1187163319)
def yj.t4:IR:=dI [] 37322110782702453518569901699673
def yj.t7:IR:=.reg (dA [] 9803015616248617990464144803)
def yj.t13:IR:=.reg (dA [] 33240292410010534699022113)
def yj.t14:IR:=.reg (dA [] 4221627073937670504003361)
def yj.t15:IR:=.reg (dA [] 39301686619048293388773804617)
def yj.t16:IR:=.reg (dA [] 597535488796215610515586881596558616220812704296273)
def yj.t17:IR:=.reg (dA [] 1276959430370597787)
def yj.t18:IR:=dI [] 80199859431249885126228110333581246820186451109889644546649
def yj.t21:IR:=dI [] 153171849594541243909917913
def yj.t22:IR:=.seq yj.t21 .ret
def yj.t27:IR:=.seq yj.t13 (.seq yj.t14 (.seq yj.t15 (.seq yj.t16 (.seq (.seq yj.t17 (.cond aT17 yj.t18 .skip)) yj.t22))))
def yj.t29:IR:=.seq yj.t0 (.seq (.seq yj.t1 (.cond aT15 (.seq yj.t2 (.seq (.seq yj.t3 (.cond aT16 yj.t4 .skip)) (.seq yj.t7 .ret))) .skip)) yj.t27)
def yj.b0:IR:=yj.t29
def yj.res:List RV:=[.cell (.of 4) (some 2),.cell (.of 5) (some 2)]
def yj:Fn:={ params:=[(.of 0),(.of 1)],res:=yj.res,body:=yj.b0,init:=in18 }
theorem yj.ok:fnA Tryz.prog Tryz.f197 [0,1,2,3,4,5,6,7,8,9,11,12,13,14,15,28,40,75]=some yj:=by kernel_rfl
abbrev wu.fr:=fr9
def wu.b3:IR:=dI [] 369922022305078371255227694250601497322465852223348823225015
def wu.b2:IR:=(.loop wu.b3)
def wu.g1 (X2:IR):IR:=(.block 0 X2)
def wu.b1:IR:=wu.g1 wu.b2
def wu.b8:IR:=dI [] 7337183
def wu.b0:IR:=dI [wu.b1,wu.b8] 4688598606935067357829908471
def wu.res:List RV:=[.t (.of 2)]
def wu:Fn:={ params:=[(.of 0),(.of 1)],res:=wu.res,body:=wu.b0,init:=in9 }
theorem wu.ok:fnA Tryz.prog Tryz.f198 [0,1,4,5,7,8,9,10,11]=some wu:=by kernel_rfl
abbrev aV.fr:=fr3
def aV.b0:IR:=dI [] 142131202886424683151679903483303415
def aV.res:List RV:=[.t (.of 1)]
def aV:Fn:={ params:=[(.of 0)],res:=aV.res,body:=aV.b0,init:=in3 }
theorem aV.ok:fnA Tryz.prog Tryz.f235 [0,2,3]=some aV:=by kernel_rfl
abbrev aU.fr:=fr3
def aU.b0:IR:=dI [] 541498984435815910878270591
def aU.res:List RV:=[.t (.of 2)]
def aU:Fn:={ params:=[(.of 0)],res:=aU.res,body:=aU.b0,init:=in3 }
theorem aU.ok:fnA Tryz.prog Tryz.f236 [0,1,2]=some aU:=by kernel_rfl
abbrev F242.fr:=fr5
def F242.b0:IR:=dI [] 4109482659657659678665523305269347711301724302389427808303470396512980694201332958247596249435822864377188343
def F242.res:List RV:=[.t (.of 2)]
def F242:Fn:={ params:=[(.of 0),(.of 1)],res:=F242.res,body:=F242.b0,init:=in5 }
theorem F242.ok:fnA Tryz.prog Tryz.f242 [0,1,4,6,16]=some F242:=by kernel_rfl
abbrev F243.fr:=fr8
def F243.b0:IR:=dI [] 61219255864583425186627167159809703612663176323707457325465507177328433005466956165552669102415155191
def F243.res:List RV:=[.t (.of 2)]
def F243:Fn:={ params:=[(.of 0),(.of 1)],res:=F243.res,body:=F243.b0,init:=in8 }
theorem F243.ok:fnA Tryz.prog Tryz.f243 [0,1,4,5,6,10,11,12]=some F243:=by kernel_rfl
abbrev F244.fr:=fr4
def F244.b0:IR:=dI [] 1029453064308827779219959
def F244.res:List RV:=[.t (.of 3)]
def F244:Fn:={ params:=[(.of 0),(.of 1),(.of 2)],res:=F244.res,body:=F244.b0,init:=in4 }
theorem F244.ok:fnA Tryz.prog Tryz.f244 [0,1,2,4]=some F244:=by kernel_rfl
abbrev F245.fr:=fr4
def F245.b0:IR:=dI [] 1029453061115092245398007
def F245.res:List RV:=[.t (.of 3)]
def F245:Fn:={ params:=[(.of 0),(.of 1),(.of 2)],res:=F245.res,body:=F245.b0,init:=in4 }
theorem F245.ok:fnA Tryz.prog Tryz.f245 [0,1,2,4]=some F245:=by kernel_rfl
abbrev F246.fr:=fr8
def F246.b0:IR:=dI [] 17182150338840580239037462399336957662200017299340451213054866845753732773914996549546736496567351583703167
def F246.res:List RV:=[]
def F246:Fn:={ params:=[(.of 0),(.of 1),(.of 2)],res:=F246.res,body:=F246.b0,init:=in8 }
theorem F246.ok:fnA Tryz.prog Tryz.f246 [0,1,2,4,5,6,7,15]=some F246:=by kernel_rfl
abbrev F247.fr:=fr5
def F247.b0:IR:=dI [] 334010624671955019371915621759314981815416623400279289524609154990327
def F247.res:List RV:=[.t (.of 4)]
def F247:Fn:={ params:=[(.of 0),(.of 1),(.of 2),(.of 3)],res:=F247.res,body:=F247.b0,init:=in5 }
theorem F247.ok:fnA Tryz.prog Tryz.f247 [0,1,2,3,5]=some F247:=by kernel_rfl
abbrev F248.fr:=fr8
def F248.b0:IR:=dI [] 539232628866270108140781753719435199516089722910812312095915333620276296357167715116385575820065506655586241422104055
def F248.res:List RV:=[.t (.of 1)]
def F248:Fn:={ params:=[(.of 0)],res:=F248.res,body:=F248.b0,init:=in8 }
theorem F248.ok:fnA Tryz.prog Tryz.f248 [0,2,3,5,6,7,8,9]=some F248:=by kernel_rfl
abbrev F250.fr:=fr3
def F250.b0:IR:=dI [] 270786581393053344971150463
def F250.res:List RV:=[.t (.of 2)]
def F250:Fn:={ params:=[(.of 0)],res:=F250.res,body:=F250.b0,init:=in3 }
theorem F250.ok:fnA Tryz.prog Tryz.f250 [0,1,2]=some F250:=by kernel_rfl
abbrev F251.fr:=fr3
def F251.b0:IR:=dI [] 4330414739164966945623430271
def F251.res:List RV:=[.t (.of 2)]
def F251:Fn:={ params:=[(.of 0)],res:=F251.res,body:=F251.b0,init:=in3 }
theorem F251.ok:fnA Tryz.prog Tryz.f251 [0,1,2]=some F251:=by kernel_rfl
abbrev F252.fr:=fr3
def F252.b0:IR:=dI [] 2165920422924906496748475519
def F252.res:List RV:=[.t (.of 2)]
def F252:Fn:={ params:=[(.of 0)],res:=F252.res,body:=F252.b0,init:=in3 }
theorem F252.ok:fnA Tryz.prog Tryz.f252 [0,1,2]=some F252:=by kernel_rfl
abbrev F253.fr:=fr3
def F253.b0:IR:=dI [] 2165377350779376487548900479
def F253.res:List RV:=[.t (.of 2)]
def F253:Fn:={ params:=[(.of 0)],res:=F253.res,body:=F253.b0,init:=in3 }
theorem F253.ok:fnA Tryz.prog Tryz.f253 [0,1,2]=some F253:=by kernel_rfl
abbrev F254.fr:=fr3
def F254.b0:IR:=dI [] 6330721867851217909196337587448972794831280620974383085259210918631376213119
def F254.res:List RV:=[.t (.of 2)]
def F254:Fn:={ params:=[(.of 0)],res:=F254.res,body:=F254.b0,init:=in3 }
theorem F254.ok:fnA Tryz.prog Tryz.f254 [0,1,2]=some F254:=by kernel_rfl
abbrev F255.fr:=fr6
def F255.b0:IR:=dI [] 907468865133428041870625560462044875597992776540207023292692763624891817230802013646399814736745799018822475932909024112121183582905964872152999542219700850395899224601356947739775
def F255.res:List RV:=[.t (.of 2)]
def F255:Fn:={ params:=[(.of 0)],res:=F255.res,body:=F255.b0,init:=in6 }
theorem F255.ok:fnA Tryz.prog Tryz.f255 [0,1,2,3,4,13]=some F255:=by kernel_rfl
abbrev F256.fr:=fr6
def F256.b0:IR:=dI [] 7233474079186254480003224521500120043980195286643751748619533679057854971701899838151172426419378092763911083135
def F256.res:List RV:=[.t (.of 2)]
def F256:Fn:={ params:=[(.of 0)],res:=F256.res,body:=F256.b0,init:=in6 }
theorem F256.ok:fnA Tryz.prog Tryz.f256 [0,1,2,5,8,13]=some F256:=by kernel_rfl
abbrev F257.fr:=fr3
def F257.b0:IR:=dI [] 654580983265195084826549532106189016449502091727999
def F257.res:List RV:=[.t (.of 2)]
def F257:Fn:={ params:=[(.of 0)],res:=F257.res,body:=F257.b0,init:=in3 }
theorem F257.ok:fnA Tryz.prog Tryz.f257 [0,1,2]=some F257:=by kernel_rfl
abbrev F258.fr:=fr8
def F258.b0:IR:=dI [] 22879711582123609883394497420634978832752776379038952088616913584417704100006082998063401504811387040583616243147272920772945375883064123049459185460491391
def F258.res:List RV:=[.cell (.of 3) (some 2)]
def F258:Fn:={ params:=[(.of 0),(.of 1)],res:=F258.res,body:=F258.b0,init:=in8 }
theorem F258.ok:fnA Tryz.prog Tryz.f258 [0,1,2,4,5,8,13,18]=some F258:=by kernel_rfl
abbrev jl.fr:=fr8
def jl.t0:IR:=.reg (dA [] 17856278190651)
def jl.t1:IR:=.reg (dA [] 11497049178712193433408771200895041117801)
def jl.t2:IR:=.reg (dA [] 3746248068876702947)
def jl.t3:IR:=.reg [iQo 4 (.mv (.c (I (-1))))]
def jl.t5:IR:=.reg (dA [] 17002558387669669091)
def jl.t6:IR:=.reg [iQo 4 (.mv aC1)]
def jl.t13:IR:=.reg [iQo 4 (.mv aC0)]
def jl.t18:IR:=.reg (dA [] 30210776802033266881673017)
def jl.t19:IR:=.seq jl.t18 .ret
def jl.t21:IR:=.seq jl.t0 (.seq (.seq jl.t1 (.cond aT5 (.seq (.block 0 (.seq jl.t2 (.cond aT6 (.seq jl.t3 .ret) (.seq jl.t5 (.cond aT7 (.seq jl.t6 .ret) .skip))))) (.seq jl.t13 .ret)) .skip)) jl.t19)
def jl.b0:IR:=jl.t21
def jl.res:List RV:=[.t (.of 4)]
def jl:Fn:={ params:=[(.of 0),(.of 1)],res:=jl.res,body:=jl.b0,init:=in8 }
theorem jl.ok:fnA Tryz.prog Tryz.f259 [0,1,2,3,4,12,13,19]=some jl:=by kernel_rfl
abbrev F260.fr:=fr8
def F260.b0:IR:=dI [] 493175448663753415955091262456068072822906019454141188302487789892381247746932371654387507757053549839873004671
def F260.res:List RV:=[.t (.of 2)]
def F260:Fn:={ params:=[(.of 0)],res:=F260.res,body:=F260.b0,init:=in8 }
theorem F260.ok:fnA Tryz.prog Tryz.f260 [0,1,2,4,5,6,7,10]=some F260:=by kernel_rfl
abbrev F261.fr:=fr9
def F261.b0:IR:=dI [] 17082062151403743526126877736644090791791352424367460456453585773693849470235108678113425757971245594935993154698921460428760802881419061174854131608813941478442117323023041267886238672933544690933154169335
def F261.res:List RV:=[.t (.of 3)]
def F261:Fn:={ params:=[(.of 0),(.of 1),(.of 2)],res:=F261.res,body:=F261.b0,init:=in9 }
theorem F261.ok:fnA Tryz.prog Tryz.f261 [0,1,2,5,6,8,9,10,11]=some F261:=by kernel_rfl
abbrev aQ.fr:=fr3
def aQ.b0:IR:=dI [] 67683301401178278445649911
def aQ.res:List RV:=[.t (.of 2)]
def aQ:Fn:={ params:=[(.of 0),(.of 1)],res:=aQ.res,body:=aQ.b0,init:=in3 }
theorem aQ.ok:fnA Tryz.prog Tryz.f262 [0,1,4]=some aQ:=by kernel_rfl
abbrev aP.fr:=fr3
def aP.b0:IR:=dI [] 16527980455636603178999
def aP.res:List RV:=[.t (.of 2)]
def aP:Fn:={ params:=[(.of 0),(.of 1)],res:=aP.res,body:=aP.b0,init:=in3 }
theorem aP.ok:fnA Tryz.prog Tryz.f263 [0,1,3]=some aP:=by kernel_rfl
abbrev fD.fr:=fr5
def fD.t0:IR:=.reg (dA [] 55136594319931)
def fD.t1:IR:=dI [] 16566736745831360098247980348460633
def fD.t3:IR:=.seq fD.t0 (.seq fD.t1 .ret)
def fD.b0:IR:=fD.t3
def fD.res:List RV:=[.cell (.of 4) (some 4)]
def fD:Fn:={ params:=[(.of 0),(.of 1)],res:=fD.res,body:=fD.b0,init:=in5 }
theorem fD.ok:fnA Tryz.prog Tryz.f264 [0,1,2,3,4]=some fD:=by kernel_rfl
abbrev jm.fr:=fr8
def jm.t0:IR:=.reg [iQo 2 (.mv aC0)]
def jm.t1:IR:=.reg (dA [] 4696641323)
def jm.t2:IR:=.reg (dA [] 7287725)
def jm.t4:IR:=.reg (dA [] 212951)
def jm.t5:IR:=.reg (dA [] 30315238162188413603)
def jm.t6:IR:=.reg (dA [] 261431)
def jm.t12:IR:=.reg (dA [] 125689479)
def jm.t15:IR:=.seq jm.t2 (.seq (.cond aT6 .skip (.exit 0)) (.seq (.block 1 (.seq jm.t4 (.seq jm.t5 (.cond aT7 (.seq jm.t6 .ret) .skip)))) jm.t12))
def jm.t16:IR:=.loop jm.t15
def jm.t19:IR:=.reg [iQo 2 (.mv (.c (I (-1))))]
def jm.t22:IR:=.seq jm.t0 (.seq (.seq jm.t1 (.block 0 jm.t16)) (.seq jm.t19 .ret))
def jm.b0:IR:=jm.t22
def jm.res:List RV:=[.t (.of 2)]
def jm:Fn:={ params:=[(.of 0),(.of 1)],res:=jm.res,body:=jm.b0,init:=in8 }
theorem jm.ok:fnA Tryz.prog Tryz.f265 [0,1,4,5,7,8,9,16]=some jm:=by kernel_rfl
end
end Go.Ev
