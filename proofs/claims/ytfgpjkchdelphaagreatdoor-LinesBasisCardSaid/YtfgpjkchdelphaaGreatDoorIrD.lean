import Derived.Test.YtfgpjkchdelphaaGreatDoorIrA
import Derived.Test.YtfgpjkchdelphaaGreatDoorEvC
import Derived.Test.YtfgpjkchdelphaaGreatDoorProg
import Derived.KernelRfl
set_option linter.unusedSimpArgs false
set_option linter.unusedVariables false
namespace Go.Ev
open Go Go.Proofs
set_option maxRecDepth 100000
noncomputable section

abbrev zf.fr:=fr19
def zf.t0:IR:=.reg (dA [] 62961)
def zf.t1:IR:=.reg (dA [] 66388477722)
def zf.t4:IR:=.reg (dA [] 850746047158760)
def zf.t5:IR:=.reg (dA [] 317290130673)
def zf.t6:IR:=.reg (dA [] 67091138624942201681108)
def zf.t7:IR:=.reg (dA [] 146492590949084256567674381060897732)
def zf.t8:IR:=.reg (dA [] 114787751397943917031793615949312196)
def zf.t9:IR:=dI [] 3044998047655756384661593541349936319710179284249441613306191429257961484357448506
def zf.t10:IR:=dI [] 97439937524984204309170993323197962322069589429163584289757706723678055758061089594
def zf.t11:IR:=dI [] 1559039000399747268946735893171167396527363048033935727883210030811517575891082261306
def zf.t12:IR:=dI [] 1559039000399747268946735893171167400911867960026644969284442376250886255099367109434
def zf.t13:IR:=.reg (dA [] 259305009)
def zf.t24:IR:=.seq (.seq zf.t1 (.cond aT15 .skip (.exit 0))) (.block 1 (.seq zf.t4 (.seq zf.t5 (.seq zf.t6 (.seq zf.t7 (.seq zf.t8 (.seq zf.t9 (.seq zf.t10 (.seq zf.t11 (.seq zf.t12 zf.t13))))))))))
def zf.t25:IR:=.loop zf.t24
def zf.t27:IR:=.reg (dA [] 101039345)
def zf.t28:IR:=.reg (dA [] 2501068570)
def zf.t29:IR:=.reg (dA [] 1066382832433)
def zf.t30:IR:=.reg (dA [] 207389242161)
def zf.t31:IR:=.reg (dA [] 11369878247363999863626619769518931908)
def zf.t32:IR:=dI [] 194879875049968408618341986646395924761306371915338941332317997850736660021582476090
def zf.t33:IR:=dI [] 1559039000399747268946735893171167397310614084615772219148103875999594537266705314618
def zf.t34:IR:=.reg (dA [] 9743921)
def zf.t42:IR:=.reg (dA [] 5989943066)
def zf.t43:IR:=.reg (dA [] 2038130170669131368)
def zf.t44:IR:=.reg (dA [] 106272961329)
def zf.t45:IR:=dI [] 194879875049968408618341986646395924664253528811333666726597026443183512567061394234
def zf.t46:IR:=.reg (dA [] 23375409)
def zf.t52:IR:=.reg (dA [] 751847194)
def zf.t53:IR:=.reg (dA [] 16663713833211734029395924)
def zf.t55:IR:=.seq zf.t52 (.cond aT18 zf.t53 .skip)
def zf.t56:IR:=.seq (.seq zf.t42 (.cond aT17 (.seq zf.t43 (.seq zf.t44 (.seq zf.t45 zf.t46))) .skip)) zf.t55
def zf.t60:IR:=.seq zf.t0 (.seq (.block 0 zf.t25) (.seq zf.t27 (.seq (.seq zf.t28 (.cond aT16 (.seq zf.t29 (.seq zf.t30 (.seq zf.t31 (.seq zf.t32 (.seq zf.t33 zf.t34))))) .skip)) zf.t56)))
def zf.b0:IR:=zf.t60
def zf.res:List RV:=[]
def zf:Fn:={ params:=[(.of 0),(.of 1)],res:=zf.res,body:=zf.b0,init:=in19 }
theorem zf.ok:fnA Tryz.prog Tryz.f317 [0,1,4,5,6,7,8,9,10,11,12,13,14,15,16,20,99,139,161]=some zf:=by kernel_rfl
abbrev F320.fr:=fr3
def F320.b0:IR:=dI [] 2661798386997545365258259809169139060991993237452637081919166572752661015
def F320.res:List RV:=[.t (.of 2)]
def F320:Fn:={ params:=[(.of 0),(.of 1)],res:=F320.res,body:=F320.b0,init:=in3 }
theorem F320.ok:fnA Tryz.prog Tryz.f320 [0,1,4]=some F320:=by kernel_rfl
abbrev F328.fr:=fr2
def F328.b0:IR:=dI [] 905354846398819479
def F328.res:List RV:=[.t (.of 1)]
def F328:Fn:={ params:=[(.of 0)],res:=F328.res,body:=F328.b0,init:=in2 }
theorem F328.ok:fnA Tryz.prog Tryz.f328 [0,2]=some F328:=by kernel_rfl
abbrev nZ.fr:=fr2
def nZ.t0:IR:=.reg [iQo 1 (.mv aC0)]
def nZ.t1:IR:=.reg (dA [] 2626487086398725096)
def nZ.t3:IR:=.seq nZ.t0 (.seq nZ.t1 .ret)
def nZ.b0:IR:=nZ.t3
def nZ.res:List RV:=[.t (.of 1)]
def nZ:Fn:={ params:=[(.of 0)],res:=nZ.res,body:=nZ.b0,init:=in2 }
theorem nZ.ok:fnA Tryz.prog Tryz.f329 [0,2]=some nZ:=by kernel_rfl
abbrev mq.fr:=fr3
def mq.t0:IR:=.reg [iQo 1 (.mv aC0)]
def mq.t1:IR:=.reg [iQo 2 (.mv aT0)]
def mq.t2:IR:=.reg [iQo 1 (.mv aC1)]
def mq.t6:IR:=.reg [iQo 1 (.mv aC0)]
def mq.t9:IR:=.seq mq.t0 (.seq (.seq mq.t1 (.cond aT2 (.seq mq.t2 .ret) .skip)) (.seq mq.t6 .ret))
def mq.b0:IR:=mq.t9
def mq.res:List RV:=[.t (.of 1)]
def mq:Fn:={ params:=[(.of 0)],res:=mq.res,body:=mq.b0,init:=in3 }
theorem mq.ok:fnA Tryz.prog Tryz.f330 [0,2,3]=some mq:=by kernel_rfl
end
end Go.Ev
