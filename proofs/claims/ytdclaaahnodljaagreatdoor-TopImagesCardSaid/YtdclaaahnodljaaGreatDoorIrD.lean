import Derived.Test.YtdclaaahnodljaaGreatDoorIrA
import Derived.Test.YtdclaaahnodljaaGreatDoorEvC
import Derived.Test.YtdclaaahnodljaaGreatDoorProg
import Derived.KernelRfl
set_option linter.unusedSimpArgs false
set_option linter.unusedVariables false
namespace Go.Ev
open Go Go.Proofs
set_option maxRecDepth 100000
noncomputable section

abbrev tX.fr:=fr11
def tX.b3:IR:=(iSr [iSm 5,.s (.bin .add .int aC1 aS0),.s (.aslice 1 24 aT3 (some aC1) (some aS0) none),.s (.b2s aS0),iQm 2 0] .ret)
def tX.g2 (X3:IR):IR:=(iSr [iSm 4,iCa 283 [aS0],iQm 5 0] (iSr [iSm 5,.s (.bin .add .int aC1 aS0),.s (.aslice 1 24 aT3 (some aC1) (some aS0) none),iSm 4,iCa 284 [aS1,aS0]] (.seq (iSr [iSm 0,iQo 10 (.bin .lss .int aS0 aC0)] (.cond sJ (iSr [.s (.tH 1 24 aT3 aC0),.w .none none (.store 1 aS0 (.c (.int .u8 45)))] (iSr [iSm 5,.s (.bin .add .int aC1 aS0),.s (.aslice 1 24 aT3 none (some aS0) none),.s (.b2s aS0),iQm 2 0] .ret)) .skip)) X3)))
def tX.b2:IR:=tX.g2 tX.b3
def tX.g1 (X2:IR):IR:=(iSr [iWl 3 (.alloc [(.int .u8 0),(.int .u8 0),(.int .u8 0),(.int .u8 0),(.int .u8 0),(.int .u8 0),(.int .u8 0),(.int .u8 0),(.int .u8 0),(.int .u8 0),(.int .u8 0),(.int .u8 0),(.int .u8 0),(.int .u8 0),(.int .u8 0),(.int .u8 0),(.int .u8 0),(.int .u8 0),(.int .u8 0),(.int .u8 0),(.int .u8 0),(.int .u8 0),(.int .u8 0),(.int .u8 0)])] (iSr [iSm 0,.s (.conv .u64 aS0),iQm 4 0] (.seq (iSr [iSm 0,iQo 9 (.bin .lss .int aS0 aC0)] (.cond aT9 (.reg [iSm 4,.s (.neg aS0),iQm 4 0]) .skip)) X2)))
def tX.b1:IR:=tX.g1 tX.b2
def tX.b4:IR:=(iSr [iSm 0,.s (.conv .u64 aS0),iSm 1,iSm 0,.s (.bin .lss .int aS0 aC0),iCa 285 [(.c .zf),aS3,aS2,aS0,(.c (.bool false))],.s (.mv aS0),.s (.ext 0 aS0),.s (.ext 1 aS1),.s (.mv aS1),iQm 6 1] (iSr [iSm 6,iQm 2 0] .ret))
def tX.g0 (X1 X4:IR):IR:=(iSr [iQo 2 (.mv (.c (.str [])))] (.seq (iSr [iSm 1,iQo 7 (.bin .eql .int aS0 aC10)] (.cond aT7 (.seq (iSr [iSm 0,.s (.bin .leq .int aC0 aS0),.s (.mv aS0),iPt 0 (.mv aT0),iPt 1 (.bin .lss .int aS0 qb8),iQo 8 (.pick aS2 aS0 (.c (.bool false)))] (.cond aT8 (iSr [iSm 0,iCa 282 [aS0],iQm 2 0] .ret) .skip)) X1) .skip)) X4))
def tX.b0:IR:=tX.g0 tX.b1 tX.b4
def tX.res:List RV:=[.t (.of 2)]
def tX:Fn:={ params:=[(.of 0),(.of 1)],res:=tX.res,body:=tX.b0,init:=in11 }
theorem tX.ok:fnA Tryz.prog Tryz.f263 [0,1,4,5,6,7,9,11,17,23,34]=some tX:=by kernel_rfl
abbrev F282.fr:=fr3
def F282.b1:IR:=(iSr [iSm 0,.s (.bin .mul .int aS0 aC2),iSm 0,.s (.bin .mul .int aS0 aC2),.s (.bin .add .int aS0 aC2),.s (.zaw (.c (.str [48,48,48,49,48,50,48,51,48,52,48,53,48,54,48,55,48,56,48,57,49,48,49,49,49,50,49,51,49,52,49,53,49,54,49,55,49,56,49,57,50,48,50,49,50,50,50,51,50,52,50,53,50,54,50,55,50,56,50,57,51,48,51,49,51,50,51,51,51,52,51,53,51,54,51,55,51,56,51,57,52,48,52,49,52,50,52,51,52,52,52,53,52,54,52,55,52,56,52,57,53,48,53,49,53,50,53,51,53,52,53,53,53,54,53,55,53,56,53,57,54,48,54,49,54,50,54,51,54,52,54,53,54,54,54,55,54,56,54,57,55,48,55,49,55,50,55,51,55,52,55,53,55,54,55,55,55,56,55,57,56,48,56,49,56,50,56,51,56,52,56,53,56,54,56,55,56,56,56,57,57,48,57,49,57,50,57,51,57,52,57,53,57,54,57,55,57,56,57,57])) (some aS3) (some aS0)),iQm 1 0] .ret)
def F282.g0 (X1:IR):IR:=(iSr [iQo 1 (.mv (.c (.str [])))] (.seq (iSr [iSm 0,iQo 2 (.bin .lss .int aS0 aC10)] (.cond aT2 (iSr [iSm 0,iSm 0,.s (.bin .add .int aS0 aC1),.s (.zaw (.c (.str [48,49,50,51,52,53,54,55,56,57,97,98,99,100,101,102,103,104,105,106,107,108,109,110,111,112,113,114,115,116,117,118,119,120,121,122])) (some aS2) (some aS0)),iQm 1 0] .ret) .skip)) X1))
def F282.b0:IR:=F282.g0 F282.b1
def F282.res:List RV:=[.t (.of 1)]
def F282:Fn:={ params:=[(.of 0)],res:=F282.res,body:=F282.b0,init:=in3 }
theorem F282.ok:fnA Tryz.prog Tryz.f282 [0,2,4]=some F282:=by kernel_rfl
end
end Go.Ev
