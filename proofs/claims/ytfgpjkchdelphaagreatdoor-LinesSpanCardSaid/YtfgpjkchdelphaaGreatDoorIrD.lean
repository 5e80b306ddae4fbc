import Derived.Test.YtfgpjkchdelphaaGreatDoorIrA
import Derived.Test.YtfgpjkchdelphaaGreatDoorEvC
import Derived.Test.YtfgpjkchdelphaaGreatDoorProg
import Derived.KernelRfl
set_option linter.unusedSimpArgs false
set_option linter.unusedVariables false
namespace Go.Ev
open Go Go.Proofs
set_option maxRecDepth 100000
noncomputable section

abbrev zh.fr:=fr19
def zh.t0:IR:=.reg (dA [] 1887979)
def zh.t1:IR:=.reg (dA [] 18691126327)
def zh.t4:IR:=.reg (dA [] 827284876004307)
def zh.t5:IR:=.reg (dA [] 67151906283)
def zh.t6:IR:=.reg (dA [] 113239817691637317994697)
def zh.t7:IR:=.reg (dA [] 154617819541632257884132589489558489)
def zh.t8:IR:=.reg (dA [] 475399339230586164319618734978437081)
def zh.t9:IR:=dI [] 6659383507375773840392310809627238237386930181631708122508572128776932939809
def zh.t10:IR:=dI [] 213100272236024762892553945908071657047499563608208792570819116546897688254497
def zh.t11:IR:=dI [] 1704802177888198103140431567264573261752882200114615797090082396220336775223329
def zh.t12:IR:=dI [] 1704802177888198103140431567264573618564805376604902942143321530430028245751841
def zh.t13:IR:=.reg (dA [] 1915519083)
def zh.t24:IR:=.seq (.seq zh.t1 (.cond aT15 .skip (.exit 0))) (.block 1 (.seq zh.t4 (.seq zh.t5 (.seq zh.t6 (.seq zh.t7 (.seq zh.t8 (.seq zh.t9 (.seq zh.t10 (.seq zh.t11 (.seq zh.t12 zh.t13))))))))))
def zh.t25:IR:=.loop zh.t24
def zh.t27:IR:=.reg (dA [] 2143397355)
def zh.t28:IR:=.reg (dA [] 136536978487)
def zh.t29:IR:=.reg (dA [] 3846316431979)
def zh.t30:IR:=.reg (dA [] 4396071197291)
def zh.t31:IR:=.reg (dA [] 1643169034957416898469858468384087257)
def zh.t32:IR:=dI [] 106550136118012381446276972954035839480932127169927120407694817943611203508257
def zh.t33:IR:=dI [] 3409604355776396206280863134529147510111438826826026158896259990422117199763489
def zh.t34:IR:=.reg (dA [] 2145681515)
def zh.t42:IR:=.reg (dA [] 68619072567)
def zh.t43:IR:=.reg (dA [] 2592383163206874323)
def zh.t44:IR:=.reg (dA [] 2195772873323)
def zh.t45:IR:=dI [] 426200544472049525785107891816143227242655823015317731953696387035761189181473
def zh.t46:IR:=.reg (dA [] 1073512555)
def zh.t52:IR:=.reg (dA [] 1806922807)
def zh.t53:IR:=.reg (dA [] 4165959596046095304256969)
def zh.t55:IR:=.seq zh.t52 (.cond aT18 zh.t53 .skip)
def zh.t56:IR:=.seq (.seq zh.t42 (.cond aT17 (.seq zh.t43 (.seq zh.t44 (.seq zh.t45 zh.t46))) .skip)) zh.t55
def zh.t60:IR:=.seq zh.t0 (.seq (.block 0 zh.t25) (.seq zh.t27 (.seq (.seq zh.t28 (.cond aT16 (.seq zh.t29 (.seq zh.t30 (.seq zh.t31 (.seq zh.t32 (.seq zh.t33 zh.t34))))) .skip)) zh.t56)))
def zh.b0:IR:=zh.t60
def zh.res:List RV:=[]
def zh:Fn:={ params:=[(.of 0),(.of 1)],res:=zh.res,body:=zh.b0,init:=in19 }
theorem zh.ok:fnA Tryz.prog Tryz.f317 [0,1,4,5,6,7,8,9,10,11,12,13,14,15,16,20,99,139,161]=some zh:=by kernel_rfl
abbrev F320.fr:=fr3
def F320.b0:IR:=dI [] 1827690416035525283534764350604268353419838979242652357507776799806711
def F320.res:List RV:=[.t (.of 2)]
def F320:Fn:={ params:=[(.of 0),(.of 1)],res:=F320.res,body:=F320.b0,init:=in3 }
theorem F320.ok:fnA Tryz.prog Tryz.f320 [0,1,4]=some F320:=by kernel_rfl
abbrev F328.fr:=fr2
def F328.b0:IR:=dI [] 1186958462714532343
def F328.res:List RV:=[.t (.of 1)]
def F328:Fn:={ params:=[(.of 0)],res:=F328.res,body:=F328.b0,init:=in2 }
theorem F328.ok:fnA Tryz.prog Tryz.f328 [0,2]=some F328:=by kernel_rfl
abbrev rD.fr:=fr2
def rD.t0:IR:=.reg [iQo 1 (.mv aC0)]
def rD.t1:IR:=.reg (dA [] 1091607658394684883)
def rD.t3:IR:=.seq rD.t0 (.seq rD.t1 .ret)
def rD.b0:IR:=rD.t3
def rD.res:List RV:=[.t (.of 1)]
def rD:Fn:={ params:=[(.of 0)],res:=rD.res,body:=rD.b0,init:=in2 }
theorem rD.ok:fnA Tryz.prog Tryz.f329 [0,2]=some rD:=by kernel_rfl
abbrev mg.fr:=fr3
def mg.t0:IR:=.reg [iQo 1 (.mv aC0)]
def mg.t1:IR:=.reg [iQo 2 (.mv aT0)]
def mg.t2:IR:=.reg [iQo 1 (.mv aC1)]
def mg.t6:IR:=.reg [iQo 1 (.mv aC0)]
def mg.t9:IR:=.seq mg.t0 (.seq (.seq mg.t1 (.cond aT2 (.seq mg.t2 .ret) .skip)) (.seq mg.t6 .ret))
def mg.b0:IR:=mg.t9
def mg.res:List RV:=[.t (.of 1)]
def mg:Fn:={ params:=[(.of 0)],res:=mg.res,body:=mg.b0,init:=in3 }
theorem mg.ok:fnA Tryz.prog Tryz.f330 [0,2,3]=some mg:=by kernel_rfl
end
end Go.Ev
