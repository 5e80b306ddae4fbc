import Derived.Test.YtdclaaahnodljaaGreatDoorIrA
import Derived.Test.YtdclaaahnodljaaGreatDoorEvC
import Derived.Test.YtdclaaahnodljaaGreatDoorProg
import Derived.KernelRfl
set_option linter.unusedSimpArgs false
set_option linter.unusedVariables false
namespace Go.Ev
open Go Go.Proofs
set_option maxRecDepth 100000
noncomputable section

abbrev uz.fr:=fr8
def uz.b12:IR:=(.yh [] [(iSm 0,0,[]),(iSm 5,0,[]),(iSm 0,1,[]),(iSm 5,1,[]),(.s (.bin .sub .int aS0 aC1),1,[]),(iSm 0,0,[]),(iSm 5,0,[]),(.s (.bin .sub .int aS0 aC1),0,[]),(.s (.zo 1 aS2 aS0),0,[]),(.s (.load aS0),0,[]),(iSm 0,0,[]),(iSm 5,0,[]),(.s (.zo 1 aS1 aS0),0,[]),(.s (.load aS0),0,[]),(.s (.zo 1 aS13 aS12),0,[]),(.w .none none (.store 1 aS0 aS5),0,[]),(.s (.zo 1 aS12 aS10),0,[]),(.w .none none (.store 1 aS0 aS2),0,[])])
def uz.g11 (X12:IR):IR:=(.block 3 X12)
def uz.b11:IR:=uz.g11 uz.b12
def uz.b13:IR:=(.reg [iSm 5,.s (.bin .sub .int aS0 aC1),iQm 5 0])
def uz.g10 (X11 X13:IR):IR:=(.seq X11 X13)
def uz.b10:IR:=uz.g10 uz.b11 uz.b13
def uz.g9 (X10:IR):IR:=(.seq (.seq (.yh [] [(iSm 5,0,[]),(iSm 1,0,[]),(.s (.bin .gtr .int aS1 aS0),0,[]),(.s (.mv aS0),0,[]),(iPt 0 (.mv aT3),0,[]),(iPt 1 (.mv aT0),0,[]),(iPt 2 (.mv aT5),0,[]),(iPt 3 (.zo 1 aS1 aS0),0,[]),(iPt 4 (.load aS0),0,[]),(iPt 5 (.mv aT0),0,[]),(iPt 6 (.mv aT5),0,[]),(iPt 7 (.bin .sub .int aS0 aC1),0,[]),(iPt 8 (.zo 1 aS2 aS0),0,[]),(iPt 9 (.load aS0),0,[]),(.w .push (some (aS10,true)) (.call aS9 [aS5,aS0]),0,[]),(iPt 11 (.bin .lss .int aS0 aC0),0,[]),(iQo 7 (.pick aS12 aS0 (.c (.bool false))),0,[])]) (.cond aT7 .skip (.exit 2))) X10)
def uz.b9:IR:=uz.g9 uz.b10
def uz.g8 (X9:IR):IR:=(.loop X9)
def uz.b8:IR:=uz.g8 uz.b9
def uz.g7 (X8:IR):IR:=(.block 2 X8)
def uz.b7:IR:=uz.g7 uz.b8
def uz.g6 (X7:IR):IR:=(iSr [iSm 4,iQm 5 0] X7)
def uz.b6:IR:=uz.g6 uz.b7
def uz.g5 (X6:IR):IR:=(.block 1 X6)
def uz.b5:IR:=uz.g5 uz.b6
def uz.b14:IR:=(.reg [iSm 4,.s (.bin .add .int aS0 aC1),iQm 4 0])
def uz.g4 (X5 X14:IR):IR:=(.seq X5 X14)
def uz.b4:IR:=uz.g4 uz.b5 uz.b14
def uz.g3 (X4:IR):IR:=(.seq (iSr [iSm 4,iSm 2,iQo 6 (.bin .lss .int aS1 aS0)] (.cond aT6 .skip (.exit 0))) X4)
def uz.b3:IR:=uz.g3 uz.b4
def uz.g2 (X3:IR):IR:=(.loop X3)
def uz.b2:IR:=uz.g2 uz.b3
def uz.g1 (X2:IR):IR:=(.block 0 X2)
def uz.b1:IR:=uz.g1 uz.b2
def uz.g0 (X1:IR):IR:=(iSr [iSm 1,.s (.bin .add .int aS0 aC1),iQm 4 0] X1)
def uz.b0:IR:=uz.g0 uz.b1
def uz.res:List RV:=[]
def uz:Fn:={ params:=[(.of 0),(.of 1),(.of 2),(.of 3)],res:=uz.res,body:=uz.b0,init:=in8 }
theorem uz.ok:fnA Tryz.prog Tryz.f270 [0,1,2,3,8,9,14,34]=some uz:=by kernel_rfl
abbrev oC.fr:=fr3
def oC.b1:IR:=(iSr [iSm 0,.s (.bin .mul .int aS0 aC2),iSm 0,.s (.bin .mul .int aS0 aC2),.s (.bin .add .int aS0 aC2),.s (.oD (.c (.str [48,48,48,49,48,50,48,51,48,52,48,53,48,54,48,55,48,56,48,57,49,48,49,49,49,50,49,51,49,52,49,53,49,54,49,55,49,56,49,57,50,48,50,49,50,50,50,51,50,52,50,53,50,54,50,55,50,56,50,57,51,48,51,49,51,50,51,51,51,52,51,53,51,54,51,55,51,56,51,57,52,48,52,49,52,50,52,51,52,52,52,53,52,54,52,55,52,56,52,57,53,48,53,49,53,50,53,51,53,52,53,53,53,54,53,55,53,56,53,57,54,48,54,49,54,50,54,51,54,52,54,53,54,54,54,55,54,56,54,57,55,48,55,49,55,50,55,51,55,52,55,53,55,54,55,55,55,56,55,57,56,48,56,49,56,50,56,51,56,52,56,53,56,54,56,55,56,56,56,57,57,48,57,49,57,50,57,51,57,52,57,53,57,54,57,55,57,56,57,57])) (some aS3) (some aS0)),iQm 1 0] .ret)
def oC.g0 (X1:IR):IR:=(iSr [iQo 1 (.mv (.c (.str [])))] (.seq (iSr [iSm 0,iQo 2 (.bin .lss .int aS0 aC10)] (.cond aT2 (iSr [iSm 0,iSm 0,.s (.bin .add .int aS0 aC1),.s (.oD (.c (.str [48,49,50,51,52,53,54,55,56,57,97,98,99,100,101,102,103,104,105,106,107,108,109,110,111,112,113,114,115,116,117,118,119,120,121,122])) (some aS2) (some aS0)),iQm 1 0] .ret) .skip)) X1))
def oC.b0:IR:=oC.g0 oC.b1
def oC.res:List RV:=[.t (.of 1)]
def oC:Fn:={ params:=[(.of 0)],res:=oC.res,body:=oC.b0,init:=in3 }
theorem oC.ok:fnA Tryz.prog Tryz.f282 [0,2,4]=some oC:=by kernel_rfl
end
end Go.Ev
