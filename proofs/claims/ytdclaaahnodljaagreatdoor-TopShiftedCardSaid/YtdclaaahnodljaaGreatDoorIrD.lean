import Derived.Test.YtdclaaahnodljaaGreatDoorIrA
import Derived.Test.YtdclaaahnodljaaGreatDoorEvC
import Derived.Test.YtdclaaahnodljaaGreatDoorProg
import Derived.KernelRfl
set_option linter.unusedSimpArgs false
set_option linter.unusedVariables false
namespace Go.Ev
open Go Go.Proofs
set_option maxRecDepth 100000
noncomputable section

abbrev qx.fr:=fr8
def qx.b12:IR:=(.yh [] [(iSm 0,0,[]),(iSm 5,0,[]),(iSm 0,1,[]),(iSm 5,1,[]),(.s (.bin .sub .int aS0 aC1),1,[]),(iSm 0,0,[]),(iSm 5,0,[]),(.s (.bin .sub .int aS0 aC1),0,[]),(.s (.zn 1 aS2 aS0),0,[]),(.s (.load aS0),0,[]),(iSm 0,0,[]),(iSm 5,0,[]),(.s (.zn 1 aS1 aS0),0,[]),(.s (.load aS0),0,[]),(.s (.zn 1 aS13 aS12),0,[]),(.w .none none (.store 1 aS0 aS5),0,[]),(.s (.zn 1 aS12 aS10),0,[]),(.w .none none (.store 1 aS0 aS2),0,[])])
def qx.g11 (X12:IR):IR:=(.block 3 X12)
def qx.b11:IR:=qx.g11 qx.b12
def qx.b13:IR:=(.reg [iSm 5,.s (.bin .sub .int aS0 aC1),iQm 5 0])
def qx.g10 (X11 X13:IR):IR:=(.seq X11 X13)
def qx.b10:IR:=qx.g10 qx.b11 qx.b13
def qx.g9 (X10:IR):IR:=(.seq (.seq (.yh [] [(iSm 5,0,[]),(iSm 1,0,[]),(.s (.bin .gtr .int aS1 aS0),0,[]),(.s (.mv aS0),0,[]),(iPt 0 (.mv aT3),0,[]),(iPt 1 (.mv aT0),0,[]),(iPt 2 (.mv aT5),0,[]),(iPt 3 (.zn 1 aS1 aS0),0,[]),(iPt 4 (.load aS0),0,[]),(iPt 5 (.mv aT0),0,[]),(iPt 6 (.mv aT5),0,[]),(iPt 7 (.bin .sub .int aS0 aC1),0,[]),(iPt 8 (.zn 1 aS2 aS0),0,[]),(iPt 9 (.load aS0),0,[]),(.w .push (some (aS10,true)) (.call aS9 [aS5,aS0]),0,[]),(iPt 11 (.bin .lss .int aS0 aC0),0,[]),(iQo 7 (.pick aS12 aS0 (.c (.bool false))),0,[])]) (.cond aT7 .skip (.exit 2))) X10)
def qx.b9:IR:=qx.g9 qx.b10
def qx.g8 (X9:IR):IR:=(.loop X9)
def qx.b8:IR:=qx.g8 qx.b9
def qx.g7 (X8:IR):IR:=(.block 2 X8)
def qx.b7:IR:=qx.g7 qx.b8
def qx.g6 (X7:IR):IR:=(iSr [iSm 4,iQm 5 0] X7)
def qx.b6:IR:=qx.g6 qx.b7
def qx.g5 (X6:IR):IR:=(.block 1 X6)
def qx.b5:IR:=qx.g5 qx.b6
def qx.b14:IR:=(.reg [iSm 4,.s (.bin .add .int aS0 aC1),iQm 4 0])
def qx.g4 (X5 X14:IR):IR:=(.seq X5 X14)
def qx.b4:IR:=qx.g4 qx.b5 qx.b14
def qx.g3 (X4:IR):IR:=(.seq (iSr [iSm 4,iSm 2,iQo 6 (.bin .lss .int aS1 aS0)] (.cond aT6 .skip (.exit 0))) X4)
def qx.b3:IR:=qx.g3 qx.b4
def qx.g2 (X3:IR):IR:=(.loop X3)
def qx.b2:IR:=qx.g2 qx.b3
def qx.g1 (X2:IR):IR:=(.block 0 X2)
def qx.b1:IR:=qx.g1 qx.b2
def qx.g0 (X1:IR):IR:=(iSr [iSm 1,.s (.bin .add .int aS0 aC1),iQm 4 0] X1)
def qx.b0:IR:=qx.g0 qx.b1
def qx.res:List RV:=[]
def qx:Fn:={ params:=[(.of 0),(.of 1),(.of 2),(.of 3)],res:=qx.res,body:=qx.b0,init:=in8 }
theorem qx.ok:fnA Tryz.prog Tryz.f270 [0,1,2,3,8,9,14,34]=some qx:=by kernel_rfl
abbrev F282.fr:=fr3
def F282.b1:IR:=(iSr [iSm 0,.s (.bin .mul .int aS0 aC2),iSm 0,.s (.bin .mul .int aS0 aC2),.s (.bin .add .int aS0 aC2),.s (.zau (.c (.str [48,48,48,49,48,50,48,51,48,52,48,53,48,54,48,55,48,56,48,57,49,48,49,49,49,50,49,51,49,52,49,53,49,54,49,55,49,56,49,57,50,48,50,49,50,50,50,51,50,52,50,53,50,54,50,55,50,56,50,57,51,48,51,49,51,50,51,51,51,52,51,53,51,54,51,55,51,56,51,57,52,48,52,49,52,50,52,51,52,52,52,53,52,54,52,55,52,56,52,57,53,48,53,49,53,50,53,51,53,52,53,53,53,54,53,55,53,56,53,57,54,48,54,49,54,50,54,51,54,52,54,53,54,54,54,55,54,56,54,57,55,48,55,49,55,50,55,51,55,52,55,53,55,54,55,55,55,56,55,57,56,48,56,49,56,50,56,51,56,52,56,53,56,54,56,55,56,56,56,57,57,48,57,49,57,50,57,51,57,52,57,53,57,54,57,55,57,56,57,57])) (some aS3) (some aS0)),iQm 1 0] .ret)
def F282.g0 (X1:IR):IR:=(iSr [iQo 1 (.mv (.c (.str [])))] (.seq (iSr [iSm 0,iQo 2 (.bin .lss .int aS0 aC10)] (.cond aT2 (iSr [iSm 0,iSm 0,.s (.bin .add .int aS0 aC1),.s (.zau (.c (.str [48,49,50,51,52,53,54,55,56,57,97,98,99,100,101,102,103,104,105,106,107,108,109,110,111,112,113,114,115,116,117,118,119,120,121,122])) (some aS2) (some aS0)),iQm 1 0] .ret) .skip)) X1))
def F282.b0:IR:=F282.g0 F282.b1
def F282.res:List RV:=[.t (.of 1)]
def F282:Fn:={ params:=[(.of 0)],res:=F282.res,body:=F282.b0,init:=in3 }
theorem F282.ok:fnA Tryz.prog Tryz.f282 [0,2,4]=some F282:=by kernel_rfl
end
end Go.Ev
