import Derived.Test.YtfgpjkchdelphaaGreatDoorIrA
import Derived.Test.YtfgpjkchdelphaaGreatDoorEvC
import Derived.Test.YtfgpjkchdelphaaGreatDoorProg
import Derived.KernelRfl
set_option linter.unusedSimpArgs false
set_option linter.unusedVariables false
namespace Go.Ev
open Go Go.Proofs
set_option maxRecDepth 100000
noncomputable section

abbrev zf.fr:=fr19
def zf.t0:IR:=.reg (dA [] 50420)
def zf.t1:IR:=.reg (dA [] 3977889562)
def zf.t4:IR:=.reg (dA [] 706843746713064)
def zf.t5:IR:=.reg (dA [] 19079077620)
def zf.t6:IR:=.reg (dA [] 104132468684456882761929)
def zf.t7:IR:=.reg (dA [] 63425903184363674036157447805921217)
def zf.t8:IR:=.reg (dA [] 625324708241528638831816486772600769)
def zf.t9:IR:=dI [] 2896726325091812385462217068426335548648642562299018860633622918964065183258358898
def zf.t10:IR:=dI [] 92695242402937996334790946189642737351232894243910335034637822842116260966695416946
def zf.t11:IR:=dI [] 1483123878447007941356655139034283799460171649242954405879437668213340368755464057970
def zf.t12:IR:=dI [] 741561939223503970678327569517141900871883978786245234531506898004938847569024889970
def zf.t13:IR:=.reg (dA [] 15506996)
def zf.t24:IR:=.seq (.seq zf.t1 (.cond aT15 .skip (.exit 0))) (.block 1 (.seq zf.t4 (.seq zf.t5 (.seq zf.t6 (.seq zf.t7 (.seq zf.t8 (.seq zf.t9 (.seq zf.t10 (.seq zf.t11 (.seq zf.t12 zf.t13))))))))))
def zf.t25:IR:=.loop zf.t24
def zf.t27:IR:=.reg (dA [] 520470260)
def zf.t28:IR:=.reg (dA [] 61555722010)
def zf.t29:IR:=.reg (dA [] 2166892688180)
def zf.t30:IR:=.reg (dA [] 1067380011828)
def zf.t31:IR:=.reg (dA [] 2065362138780560710553781541782405057)
def zf.t32:IR:=dI [] 46347621201468998167395473094821368814695487127406417765121777673955835775734494322
def zf.t33:IR:=dI [] 1483123878447007941356655139034283801933239809577233212298574508382310731373399749746
def zf.t34:IR:=.reg (dA [] 240426548)
def zf.t42:IR:=.reg (dA [] 13506823962)
def zf.t43:IR:=.reg (dA [] 344213726699513448)
def zf.t44:IR:=.reg (dA [] 535886197556)
def zf.t45:IR:=dI [] 185390484805875992669581892379285474905248529927196351360627439644695455879655830642
def zf.t46:IR:=.reg (dA [] 52731444)
def zf.t52:IR:=.reg (dA [] 745850650)
def zf.t53:IR:=.reg (dA [] 65001857115836416835085257)
def zf.t55:IR:=.seq zf.t52 (.cond aT18 zf.t53 .skip)
def zf.t56:IR:=.seq (.seq zf.t42 (.cond aT17 (.seq zf.t43 (.seq zf.t44 (.seq zf.t45 zf.t46))) .skip)) zf.t55
def zf.t60:IR:=.seq zf.t0 (.seq (.block 0 zf.t25) (.seq zf.t27 (.seq (.seq zf.t28 (.cond aT16 (.seq zf.t29 (.seq zf.t30 (.seq zf.t31 (.seq zf.t32 (.seq zf.t33 zf.t34))))) .skip)) zf.t56)))
def zf.b0:IR:=zf.t60
def zf.res:List RV:=[]
def zf:Fn:={ params:=[(.of 0),(.of 1)],res:=zf.res,body:=zf.b0,init:=in19 }
theorem zf.ok:fnA Tryz.prog Tryz.f317 [0,1,4,5,6,7,8,9,10,11,12,13,14,15,16,20,99,139,161]=some zf:=by kernel_rfl
abbrev F320.fr:=fr3
def F320.b0:IR:=dI [] 5198836135287978532655219480021553766267914660635590248703153659832855
def F320.res:List RV:=[.t (.of 2)]
def F320:Fn:={ params:=[(.of 0),(.of 1)],res:=F320.res,body:=F320.b0,init:=in3 }
theorem F320.ok:fnA Tryz.prog Tryz.f320 [0,1,4]=some F320:=by kernel_rfl
abbrev F328.fr:=fr2
def F328.b0:IR:=dI [] 869677308716755095
def F328.res:List RV:=[.t (.of 1)]
def F328:Fn:={ params:=[(.of 0)],res:=F328.res,body:=F328.b0,init:=in2 }
theorem F328.ok:fnA Tryz.prog Tryz.f328 [0,2]=some F328:=by kernel_rfl
abbrev bZ.fr:=fr2
def bZ.t0:IR:=.reg [iQo 1 (.mv aC0)]
def bZ.t1:IR:=.reg (dA [] 586935588946590184)
def bZ.t3:IR:=.seq bZ.t0 (.seq bZ.t1 .ret)
def bZ.b0:IR:=bZ.t3
def bZ.res:List RV:=[.t (.of 1)]
def bZ:Fn:={ params:=[(.of 0)],res:=bZ.res,body:=bZ.b0,init:=in2 }
theorem bZ.ok:fnA Tryz.prog Tryz.f329 [0,2]=some bZ:=by kernel_rfl
abbrev ve.fr:=fr3
def ve.t0:IR:=.reg [iQo 1 (.mv aC0)]
def ve.t1:IR:=.reg [iQo 2 (.mv aT0)]
def ve.t2:IR:=.reg [iQo 1 (.mv aC1)]
def ve.t6:IR:=.reg [iQo 1 (.mv aC0)]
def ve.t9:IR:=.seq ve.t0 (.seq (.seq ve.t1 (.cond aT2 (.seq ve.t2 .ret) .skip)) (.seq ve.t6 .ret))
def ve.b0:IR:=ve.t9
def ve.res:List RV:=[.t (.of 1)]
def ve:Fn:={ params:=[(.of 0)],res:=ve.res,body:=ve.b0,init:=in3 }
theorem ve.ok:fnA Tryz.prog Tryz.f330 [0,2,3]=some ve:=by kernel_rfl
end
end Go.Ev
