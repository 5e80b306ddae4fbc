import Derived.Test.YtfgpjkchdelphaaGreatDoorIrA
import Derived.Test.YtfgpjkchdelphaaGreatDoorEvC
import Derived.Test.YtfgpjkchdelphaaGreatDoorProg
import Derived.KernelRfl
set_option linter.unusedSimpArgs false
set_option linter.unusedVariables false
namespace Go.Ev
open Go Go.Proofs
set_option maxRecDepth 100000
noncomputable section

abbrev uh.fr:=fr8
def uh.t0:IR:=.reg [iQo 2 (.mv aC0)]
def uh.t1:IR:=.reg (dA [] 7378312939)
def uh.t2:IR:=.reg (dA [] 66319341)
def uh.t4:IR:=.reg (dA [] 97527)
def uh.t5:IR:=.reg (dA [] 6487537778498706271177)
def uh.t12:IR:=.reg (dA [] 99870535)
def uh.t15:IR:=.seq uh.t2 (.seq (.cond aT6 .skip (.exit 0)) (.seq (.block 1 (.seq uh.t4 (.seq uh.t5 (.cond aT7 (.seq (.reg (dA [] 7735)) .ret) .skip)))) uh.t12))
def uh.t16:IR:=.loop uh.t15
def uh.t19:IR:=.reg [iQo 2 (.mv (.c (I (-1))))]
def uh.t22:IR:=.seq uh.t0 (.seq (.seq uh.t1 (.block 0 uh.t16)) (.seq uh.t19 .ret))
def uh.b0:IR:=uh.t22
def uh.res:List RV:=[.t (.of 2)]
def uh:Fn:={ params:=[(.of 0),(.of 1)],res:=uh.res,body:=uh.b0,init:=in8 }
theorem uh.ok:fnA Tryz.prog Tryz.f108 [0,1,4,5,7,8,9,16]=some uh:=by kernel_rfl
abbrev F109.fr:=fr3
def F109.b0:IR:=dI [] 10477385368696167697500329087
def F109.res:List RV:=[.t (.of 2)]
def F109:Fn:={ params:=[(.of 0)],res:=F109.res,body:=F109.b0,init:=in3 }
theorem F109.ok:fnA Tryz.prog Tryz.f109 [0,1,2]=some F109:=by kernel_rfl
abbrev rq.fr:=fr3
def rq.t0:IR:=.reg (dA [] 222229791)
def rq.t1:IR:=.reg (dA [] 258123083659699)
def rq.t3:IR:=.seq rq.t0 (.seq rq.t1 .ret)
def rq.b0:IR:=rq.t3
def rq.res:List RV:=[.t (.of 2)]
def rq:Fn:={ params:=[(.of 0)],res:=rq.res,body:=rq.b0,init:=in3 }
theorem rq.ok:fnA Tryz.prog Tryz.f110 [0,1,2]=some rq:=by kernel_rfl
abbrev gy.fr:=fr10
def gy.t0:IR:=.reg (dA [] 388381)
def gy.t1:IR:=.reg (dA [] 15321113288187)
def gy.t2:IR:=.reg (dA [] 88731629)
def gy.t4:IR:=.reg (dA [] 150381316222462372222411977)
def gy.t5:IR:=.reg (dA [] 240782780367889243)
def gy.t6:IR:=.reg (dA [] 989445545387220615598333431962531)
def gy.t11:IR:=.reg (dA [] 125028679)
def gy.t14:IR:=.seq gy.t2 (.seq (.cond aT8 .skip (.exit 0)) (.seq (.block 1 (.seq gy.t4 (.seq gy.t5 (.cond aT9 gy.t6 .skip)))) gy.t11))
def gy.t15:IR:=.loop gy.t14
def gy.t18:IR:=.seq gy.t0 (.seq gy.t1 (.block 0 gy.t15))
def gy.b0:IR:=gy.t18
def gy.res:List RV:=[]
def gy:Fn:={ params:=[(.of 0),(.of 1)],res:=gy.res,body:=gy.b0,init:=in10 }
theorem gy.ok:fnA Tryz.prog Tryz.f111 [0,1,3,4,5,6,7,8,9,15]=some gy:=by kernel_rfl
abbrev rz.fr:=fr3
def rz.t0:IR:=.reg (dA [] 5063505183)
def rz.t1:IR:=.reg (dA [] 21238689989549975496226217)
def rz.t3:IR:=.seq rz.t0 (.seq rz.t1 .ret)
def rz.b0:IR:=rz.t3
def rz.res:List RV:=[.cell (.of 2) (some 4)]
def rz:Fn:={ params:=[(.of 0)],res:=rz.res,body:=rz.b0,init:=in3 }
theorem rz.ok:fnA Tryz.prog Tryz.f112 [0,1,2]=some rz:=by kernel_rfl
abbrev xk.fr:=fr6
def xk.t0:IR:=.reg (dA [] 2699541467748923)
def xk.t1:IR:=.reg (dA [] 3039472910158819625960208281913001)
def xk.t2:IR:=.reg (dA [] 315371006987212446748026333696867)
def xk.t6:IR:=dI [] 1168556173993146852520365105227656783242971436360528462800630339470312365009333438625556126835795223456306863137
def xk.t7:IR:=.seq xk.t6 .ret
def xk.t9:IR:=.seq xk.t0 (.seq (.seq xk.t1 (.cond aT5 (.seq xk.t2 .ret) .skip)) xk.t7)
def xk.b0:IR:=xk.t9
def xk.res:List RV:=[.cell (.of 4) (some 4)]
def xk:Fn:={ params:=[(.of 0),(.of 1)],res:=xk.res,body:=xk.b0,init:=in6 }
theorem xk.ok:fnA Tryz.prog Tryz.f114 [0,1,2,3,4,10]=some xk:=by kernel_rfl
abbrev F115.fr:=fr5
def F115.b0:IR:=dI [] 3084054701291579670342710614292061437464572566399215
def F115.res:List RV:=[.cell (.of 4) (some 4)]
def F115:Fn:={ params:=[(.of 0),(.of 1)],res:=F115.res,body:=F115.b0,init:=in5 }
theorem F115.ok:fnA Tryz.prog Tryz.f115 [0,1,2,3,4]=some F115:=by kernel_rfl
abbrev F116.fr:=fr3
def F116.b0:IR:=dI [] 2557899602977890035537143
def F116.res:List RV:=[.t (.of 2)]
def F116:Fn:={ params:=[(.of 0),(.of 1)],res:=F116.res,body:=F116.b0,init:=in3 }
theorem F116.ok:fnA Tryz.prog Tryz.f116 [0,1,4]=some F116:=by kernel_rfl
abbrev F117.fr:=fr4
def F117.b0:IR:=dI [] 105048859308052472122406348782820217651949679199008985953407
def F117.res:List RV:=[.t (.of 3)]
def F117:Fn:={ params:=[(.of 0),(.of 1)],res:=F117.res,body:=F117.b0,init:=in4 }
theorem F117.ok:fnA Tryz.prog Tryz.f117 [0,1,2,3]=some F117:=by kernel_rfl
abbrev F118.fr:=fr5
def F118.b0:IR:=dI [] 2971198575132037992664625406429063768303
def F118.res:List RV:=[.t (.of 4)]
def F118:Fn:={ params:=[(.of 0),(.of 1)],res:=F118.res,body:=F118.b0,init:=in5 }
theorem F118.ok:fnA Tryz.prog Tryz.f118 [0,1,2,3,4]=some F118:=by kernel_rfl
abbrev rA.fr:=fr5
def rA.t0:IR:=.reg (dA [] 2699541467748923)
def rA.t1:IR:=dI [] 104799742214008600644766560283986622983361519124572704830947863089185
def rA.t3:IR:=.seq rA.t0 (.seq rA.t1 .ret)
def rA.b0:IR:=rA.t3
def rA.res:List RV:=[.cell (.of 4) (some 4)]
def rA:Fn:={ params:=[(.of 0),(.of 1)],res:=rA.res,body:=rA.b0,init:=in5 }
theorem rA.ok:fnA Tryz.prog Tryz.f119 [0,1,2,3,4]=some rA:=by kernel_rfl
abbrev F120.fr:=fr4
def F120.b0:IR:=dI [] 1748299578916639201050583477189395462508805963957774187849101524849791
def F120.res:List RV:=[.cell (.of 2) (some 2)]
def F120:Fn:={ params:=[(.of 0)],res:=F120.res,body:=F120.b0,init:=in4 }
theorem F120.ok:fnA Tryz.prog Tryz.f120 [0,1,2,3]=some F120:=by kernel_rfl
abbrev F121.fr:=fr4
def F121.b0:IR:=dI [] 1457808058628351993097430014859394124589295
def F121.res:List RV:=[.t (.of 2),.t (.of 3)]
def F121:Fn:={ params:=[(.of 0)],res:=F121.res,body:=F121.b0,init:=in4 }
theorem F121.ok:fnA Tryz.prog Tryz.f121 [0,1,2,3]=some F121:=by kernel_rfl
abbrev dw.fr:=fr3
def dw.t0:IR:=.reg (dA [] 624882975)
def dw.rR (r:List RO):List RO:=dA r 17073119099418139
def dw.sQ:List RO:=dw.rR []
def dw.rQ (r:List RO):List RO:=dA r 1176161307065057267086941156793
def dw.si:List RO:=dw.rQ dw.sQ
def dw.t1:IR:=.reg dw.si
def dw.t3:IR:=.seq dw.t0 (.seq dw.t1 .ret)
def dw.b0:IR:=dw.t3
def dw.res:List RV:=[.t (.of 2)]
def dw:Fn:={ params:=[(.of 0)],res:=dw.res,body:=dw.b0,init:=in3 }
theorem dw.ok:fnA Tryz.prog Tryz.f122 [0,1,2]=some dw:=by kernel_rfl
abbrev zf.fr:=fr13
def zf.t0:IR:=.reg [iQo 1 (.mv aC0)]
def zf.t1:IR:=.reg (dA [] 8055)
def zf.t2:IR:=.reg (dA [] 197054276689740708727817579472508440793)
def zf.t3:IR:=.reg (dA [] 118890603)
def zf.t6:IR:=.reg (dA [] 101657073771)
def zf.zvy (r:List RO):List RO:=dA r 29654171658053453482747308233199106099
def zf.r5_2:List RO:=zf.zvy []
def zf.zvx (r:List RO):List RO:=dA r 11728031373947831664990995803345305541817
def zf.r5_1:List RO:=zf.zvx zf.r5_2
def zf.zvw (r:List RO):List RO:=dA r 6086823862624467
def zf.r5_0:List RO:=zf.zvw zf.r5_1
def zf.t7:IR:=.reg zf.r5_0
def zf.t10:IR:=.cond aT8 (iSr [iQo 1 (.mv aC1)] .ret) .skip
def zf.zvz (r:List RO):List RO:=dA r 1956815742426117478068891821880803409158663146787528299681715154553
def zf.r7_3:List RO:=zf.zvz []
def zf.zfm (r:List RO):List RO:=dA r 34994552782907209976923540453277409770836791790469687912601
def zf.r7_2:List RO:=zf.zfm zf.r7_3
def zf.zfl (r:List RO):List RO:=dA r 97381506645208591
def zf.r7_1:List RO:=zf.zfl zf.r7_2
def zf.zfk (r:List RO):List RO:=dA r 150939340529811341868427405529
def zf.r7_0:List RO:=zf.zfk zf.r7_1
def zf.t12:IR:=.reg zf.r7_0
def zf.t15:IR:=.cond aT9 (iSr [iQo 1 (.mv aC1)] .ret) .skip
def zf.zv1 (r:List RO):List RO:=dA r 26551773952741850845967
def zf.r9_1:List RO:=zf.zv1 []
def zf.zv0 (r:List RO):List RO:=dA r 21124177844416693828296618463741752789895385
def zf.r9_0:List RO:=zf.zv0 zf.r9_1
def zf.t17:IR:=.reg zf.r9_0
def zf.t22:IR:=.reg (dA [] 131871873198291)
def zf.t23:IR:=.reg (dA [] 105529822995802776227963409185640505731)
def zf.t24:IR:=.reg (dA [] 2321898613232557489577)
def zf.zn6 (r:List RO):List RO:=dA r 750741037
def zf.zwt:List RO:=zf.zn6 []
def zf.zn5 (r:List RO):List RO:=dA r 79687534610813943668595712267070169
def zf.zn4:List RO:=zf.zn5 zf.zwt
def zf.t25:IR:=.reg zf.zn4
def zf.t34:IR:=.reg [iQo 1 (.mv aC0)]
def zf.t37:IR:=.seq (.seq zf.t17 (.cond aT10 (iSr [iQo 1 (.mv aC4)] .ret) .skip)) (.seq (.seq zf.t22 (.cond aT11 (.seq zf.t23 (.seq zf.t24 (.seq zf.t25 (.cond aT12 (iSr [iQo 1 (.mv aC1)] .ret) .skip)))) .skip)) (.seq zf.t34 .ret))
def zf.t38:IR:=.seq (.seq zf.t12 zf.t15) zf.t37
def zf.t40:IR:=.seq zf.t6 (.seq (.seq zf.t7 zf.t10) zf.t38)
def zf.t43:IR:=.seq zf.t0 (.seq zf.t1 (.seq (.seq zf.t2 (.cond aT7 zf.t3 .skip)) zf.t40))
def zf.b0:IR:=zf.t43
def zf.res:List RV:=[.t (.of 1)]
def zf:Fn:={ params:=[(.of 0)],res:=zf.res,body:=zf.b0,init:=in13 }
theorem zf.ok:fnA Tryz.prog Tryz.f126 [0,2,3,4,5,6,7,16,36,62,72,76,95]=some zf:=by kernel_rfl
abbrev zo.fr:=fr14
def zo.t0:IR:=.reg (dA [] 162095655163)
def zo.t1:IR:=.reg (dA [] 24439)
def zo.t2:IR:=.reg (dA [] 720142998722539)
def zo.t3:IR:=.reg (dA [] 162095655163)
def zo.t7:IR:=.reg (dA [] 16261926841339724952630815726551783530371)
def zo.t8:IR:=.reg [iQo 10 (.mv aT5)]
def zo.t9:IR:=.reg (dA [] 774653931)
def zo.t12:IR:=.reg (dA [] 134594672619)
def zo.zvv (r:List RO):List RO:=dA r 748281389
def zo.r8_1:List RO:=zo.zvv []
def zo.zvu (r:List RO):List RO:=dA r 303403726837488007064525148880877183175385
def zo.r8_0:List RO:=zo.zvu zo.r8_1
def zo.t13:IR:=.reg zo.r8_0
def zo.t14:IR:=.reg (dA [] 162095655163)
def zo.t18:IR:=.reg (dA [] 73186832958983940788169)
def zo.t19:IR:=.reg (dA [] 526456701569747)
def zo.t20:IR:=.reg (dA [] 75167164912854475919305)
def zo.t23:IR:=.reg [iQo 13 (.mv aT5)]
def zo.t24:IR:=.reg (dA [] 1999962731)
def zo.t27:IR:=.reg (dA [] 3157309444703441)
def zo.t29:IR:=.seq (.seq zo.t23 (.cond aT13 zo.t24 .skip)) (.seq zo.t27 .ret)
def zo.t33:IR:=.seq zo.t12 (.seq (.seq zo.t13 (.cond aT11 (.seq zo.t14 .ret) .skip)) (.seq zo.t18 (.seq (.seq zo.t19 (.cond aT12 zo.t20 .skip)) zo.t29)))
def zo.t38:IR:=.seq zo.t0 (.seq zo.t1 (.seq (.seq zo.t2 (.cond aT9 (.seq zo.t3 .ret) .skip)) (.seq zo.t7 (.seq (.seq zo.t8 (.cond aT10 zo.t9 .skip)) zo.t33))))
def zo.b0:IR:=zo.t38
def zo.res:List RV:=[.t (.of 1),.t (.of 2),.t (.of 3)]
def zo:Fn:={ params:=[(.of 0)],res:=zo.res,body:=zo.b0,init:=in14 }
theorem zo.ok:fnA Tryz.prog Tryz.f127 [0,2,3,4,5,6,7,8,9,13,22,35,43,49]=some zo:=by kernel_rfl
abbrev zu.fr:=fr9
def zu.t0:IR:=.reg [iQo 2 (.mv (.c (.str [])))]
def zu.rR (r:List RO):List RO:=dA r 29883965806635373124087499964582513705
def zu.sQ:List RO:=zu.rR []
def zu.rQ (r:List RO):List RO:=dA r 120007437292512717893572862380051929
def zu.si:List RO:=zu.rQ zu.sQ
def zu.t1:IR:=.reg zu.si
def zu.t2:IR:=.reg (dA [] 144438519913317513423207881)
def zu.t4:IR:=.cond aT5 (.seq zu.t2 .ret) .skip
def zu.t6:IR:=.reg (dA [] 112850679)
def zu.t7:IR:=.reg (dA [] 2295280724140690889)
def zu.t10:IR:=.reg (dA [] 455742821657553995301772195)
def zu.t11:IR:=dI [] 148848917808731233537917827873
def zu.t12:IR:=.reg [iQo 4 (.mv (.c (.str [])))]
def zu.t13:IR:=.reg (dA [] 113211255)
def zu.t14:IR:=.reg (dA [] 592573)
def zu.t17:IR:=.reg (dA [] 117125849253963667084559508164569)
def zu.t18:IR:=.reg (dA [] 518518519)
def zu.t19:IR:=.reg (dA [] 226876724248735937327402953)
def zu.t22:IR:=.reg (dA [] 15351)
def zu.t25:IR:=.seq zu.t17 (.seq (.seq zu.t18 (.cond aT8 zu.t19 .skip)) (.seq zu.t22 .ret))
def zu.t29:IR:=.seq zu.t10 (.seq zu.t11 (.seq zu.t12 (.seq (.seq zu.t13 (.cond aT7 zu.t14 .skip)) zu.t25)))
def zu.t30:IR:=.seq (.seq zu.t6 (.cond aT6 zu.t7 .skip)) zu.t29
def zu.t32:IR:=.seq zu.t0 (.seq (.seq zu.t1 zu.t4) zu.t30)
def zu.b0:IR:=zu.t32
def zu.res:List RV:=[.t (.of 2)]
def zu:Fn:={ params:=[(.of 0),(.of 1)],res:=zu.res,body:=zu.b0,init:=in9 }
theorem zu.ok:fnA Tryz.prog Tryz.f128 [0,1,4,5,6,20,27,45,54]=some zu:=by kernel_rfl
abbrev qm.fr:=fr6
def qm.t0:IR:=.reg (dA [] 8437364175)
def qm.t1:IR:=.reg (dA [] 49015)
def qm.t2:IR:=.reg (dA [] 50117467243)
def qm.t3:IR:=.reg (dA [] 128847414087635)
def qm.t4:IR:=.reg (dA [] 524860249440318810649245905)
def qm.t8:IR:=dI [] 5322446580479931762013416469904061296623248727812212894753
def qm.t13:IR:=.seq qm.t0 (.seq qm.t1 (.seq qm.t2 (.seq (.seq qm.t3 (.cond aT5 (.seq qm.t4 .ret) .skip)) (.seq qm.t8 .ret))))
def qm.b0:IR:=qm.t13
def qm.res:List RV:=[.cell (.of 1) (some 2),.cell (.of 2) (some 2)]
def qm:Fn:={ params:=[(.of 0)],res:=qm.res,body:=qm.b0,init:=in6 }
theorem qm.ok:fnA Tryz.prog Tryz.f129 [0,2,3,4,5,12]=some qm:=by kernel_rfl
abbrev yt.fr:=fr11
def yt.t0:IR:=.reg (dA [] 6697090868435515)
def yt.t1:IR:=.reg (dA [] 192504431)
def yt.t2:IR:=dI [] 376348556277025623445990401702673962273
def yt.t5:IR:=.reg (dA [] 1761066274024437849513)
def yt.t6:IR:=.reg (dA [] 1363438336073047115901713219)
def yt.t7:IR:=.reg (dA [] 1390034704104568957745380163)
def yt.t8:IR:=.reg (dA [] 1202587013251792175368617)
def yt.zvt (r:List RO):List RO:=dA r 624950829
def yt.r6_1:List RO:=yt.zvt []
def yt.zvs (r:List RO):List RO:=dA r 78552987362295313803642667796735193
def yt.r6_0:List RO:=yt.zvs yt.r6_1
def yt.t9:IR:=.reg yt.r6_0
def yt.t10:IR:=.reg (dA [] 96631)
def yt.t14:IR:=.reg (dA [] 3741273490367766650454255735425955)
def yt.t15:IR:=.seq yt.t14 .ret
def yt.t20:IR:=.seq yt.t5 (.seq yt.t6 (.seq yt.t7 (.seq yt.t8 (.seq (.seq yt.t9 (.cond aT10 (.seq yt.t10 .ret) .skip)) yt.t15))))
def yt.t22:IR:=.seq yt.t0 (.seq (.seq yt.t1 (.cond aT9 yt.t2 .skip)) yt.t20)
def yt.b0:IR:=yt.t22
def yt.res:List RV:=[.t (.of 4)]
def yt:Fn:={ params:=[(.of 0),(.of 1)],res:=yt.res,body:=yt.b0,init:=in11 }
theorem yt.ok:fnA Tryz.prog Tryz.f130 [0,1,2,3,4,5,6,8,10,12,49]=some yt:=by kernel_rfl
abbrev qg.fr:=fr7
def qg.t0:IR:=.reg (dA [] 8891990955383355)
def qg.t1:IR:=.reg (dA [] 266187008570558897)
def qg.t2:IR:=dI [] 176710063198578027540565012677439342204053601
def qg.t6:IR:=.reg (dA [] 4006881246632644819033513)
def qg.t7:IR:=dI [] 176710063198578027550236419234356375601703009
def qg.t11:IR:=dI [] 176710063198578027550236382340885820370741345
def qg.t15:IR:=.seq qg.t0 (.seq (.seq qg.t1 (.cond aT5 (.seq qg.t2 .ret) .skip)) (.seq (.seq qg.t6 (.cond aT6 (.seq qg.t7 .ret) .skip)) (.seq qg.t11 .ret)))
def qg.b0:IR:=qg.t15
def qg.res:List RV:=[.cell (.of 4) (some 2)]
def qg:Fn:={ params:=[(.of 0),(.of 1)],res:=qg.res,body:=qg.b0,init:=in7 }
theorem qg.ok:fnA Tryz.prog Tryz.f131 [0,1,2,3,4,9,23]=some qg:=by kernel_rfl
abbrev nu.fr:=fr5
def nu.t0:IR:=.reg (dA [] 8891990955383355)
def nu.t1:IR:=dI [] 777179076927473440822498923636577590962334100637979299873
def nu.t3:IR:=.seq nu.t0 (.seq nu.t1 .ret)
def nu.b0:IR:=nu.t3
def nu.res:List RV:=[.cell (.of 4) (some 2)]
def nu:Fn:={ params:=[(.of 0),(.of 1)],res:=nu.res,body:=nu.b0,init:=in5 }
theorem nu.ok:fnA Tryz.prog Tryz.f132 [0,1,2,3,4]=some nu:=by kernel_rfl
abbrev jb.fr:=fr8
def jb.t0:IR:=.reg (dA [] 12771587359)
def jb.t1:IR:=.reg (dA [] 115653375262131)
def jb.t2:IR:=.reg (dA [] 256829)
def jb.t6:IR:=.reg (dA [] 7665390322913429932428300002916001)
def jb.t7:IR:=.reg (dA [] 844364907118001)
def jb.t8:IR:=.reg (dA [] 444853239)
def jb.t11:IR:=.reg (dA [] 481496182712693632029675182993795)
def jb.t13:IR:=.reg (dA [] 779683819)
def jb.t15:IR:=.seq (.seq jb.t8 (.cond aT6 .skip (.exit 0))) (.seq (.block 1 jb.t11) jb.t13)
def jb.t16:IR:=.loop jb.t15
def jb.t19:IR:=.reg (dA [] 125398639)
def jb.t20:IR:=.reg (dA [] 31278335083)
def jb.t24:IR:=.reg (dA [] 7735)
def jb.t30:IR:=.seq jb.t0 (.seq (.seq jb.t1 (.cond aT5 (.seq jb.t2 .ret) .skip)) (.seq jb.t6 (.seq (.seq jb.t7 (.block 0 jb.t16)) (.seq (.seq jb.t19 (.cond aT7 (.seq jb.t20 .ret) .skip)) (.seq jb.t24 .ret)))))
def jb.b0:IR:=jb.t30
def jb.res:List RV:=[.t (.of 2)]
def jb:Fn:={ params:=[(.of 0)],res:=jb.res,body:=jb.b0,init:=in8 }
theorem jb.ok:fnA Tryz.prog Tryz.f133 [0,1,2,3,4,8,23,35]=some jb:=by kernel_rfl
abbrev ja.fr:=fr7
def ja.t0:IR:=.reg (dA [] 259533)
def ja.t1:IR:=.reg [iQo 2 (.mv (.c .ze))]
def ja.t2:IR:=.reg (dA [] 397788907)
def ja.t3:IR:=.reg (dA [] 224262007)
def ja.t6:IR:=.reg (dA [] 12359878379)
def ja.t7:IR:=.reg (dA [] 225700855)
def ja.t8:IR:=.reg (dA [] 389351403)
def ja.t11:IR:=.reg (dA [] 137674762256134955217)
def ja.t12:IR:=.reg (dA [] 179863340779)
def ja.t13:IR:=.seq ja.t11 ja.t12
def ja.t17:IR:=.seq (.seq ja.t3 (.cond aT5 .skip (.exit 0))) (.block 1 (.seq ja.t6 (.seq (.seq ja.t7 (.cond aT6 ja.t8 .skip)) ja.t13)))
def ja.t18:IR:=.loop ja.t17
def ja.t20:IR:=.reg (dA [] 426866677852432595)
def ja.t21:IR:=.seq ja.t20 .ret
def ja.t25:IR:=.seq ja.t0 (.seq ja.t1 (.seq ja.t2 (.seq (.block 0 ja.t18) ja.t21)))
def ja.b0:IR:=ja.t25
def ja.res:List RV:=[.cell (.of 1) (some 2)]
def ja:Fn:={ params:=[(.of 0)],res:=ja.res,body:=ja.b0,init:=in7 }
theorem ja.ok:fnA Tryz.prog Tryz.f134 [0,2,3,4,5,9,13]=some ja:=by kernel_rfl
abbrev F135.fr:=fr2
def F135.b0:IR:=dI [] 122119690562049596800833718233807934691292551017798254368857918835820883096818167
def F135.res:List RV:=[.t (.of 1)]
def F135:Fn:={ params:=[(.of 0)],res:=F135.res,body:=F135.b0,init:=in2 }
theorem F135.ok:fnA Tryz.prog Tryz.f135 [0,2]=some F135:=by kernel_rfl
abbrev F136.fr:=fr9
def F136.b0:IR:=dI [] 25937141391251069578748513770756844449573474960858676080226952819223281735013921060604349995354997926134849884663
def F136.res:List RV:=[.t (.of 1)]
def F136:Fn:={ params:=[(.of 0)],res:=F136.res,body:=F136.b0,init:=in9 }
theorem F136.ok:fnA Tryz.prog Tryz.f136 [0,2,3,4,7,8,9,10,17]=some F136:=by kernel_rfl
abbrev F137.fr:=fr8
def F137.b0:IR:=dI [] 4632681557011653515752595456665451671080799773453766587941326051106912221975995125242755244112139511
def F137.res:List RV:=[.t (.of 2)]
def F137:Fn:={ params:=[(.of 0),(.of 1)],res:=F137.res,body:=F137.b0,init:=in8 }
theorem F137.ok:fnA Tryz.prog Tryz.f137 [0,1,4,5,6,10,11,12]=some F137:=by kernel_rfl
abbrev F138.fr:=fr3
def F138.b0:IR:=dI [] 689951434912654219494307334230657905911
def F138.res:List RV:=[.t (.of 2)]
def F138:Fn:={ params:=[(.of 0),(.of 1)],res:=F138.res,body:=F138.b0,init:=in3 }
theorem F138.ok:fnA Tryz.prog Tryz.f138 [0,1,3]=some F138:=by kernel_rfl
abbrev vw.fr:=fr10
def vw.b3:IR:=dI [] 14051244882409063632310285621233914179355572825050913266567767951410191287
def vw.b2:IR:=(.loop vw.b3)
def vw.g1 (X2:IR):IR:=(.block 0 X2)
def vw.b1:IR:=vw.g1 vw.b2
def vw.b8:IR:=dI [] 2486239
def vw.b0:IR:=dI [vw.b1,vw.b8] 15299886703799584230865885580534876976255
def vw.res:List RV:=[.t (.of 3)]
def vw:Fn:={ params:=[(.of 0),(.of 1)],res:=vw.res,body:=vw.b0,init:=in10 }
theorem vw.ok:fnA Tryz.prog Tryz.f139 [0,1,2,4,5,7,9,10,11,12]=some vw:=by kernel_rfl
abbrev F140.fr:=fr4
def F140.b0:IR:=dI [] 5726138145365513684535429978190525800520503616635910052550354197310430402523752792056685392047827537837468031050376321332090010089370249562146558614361584026528820611508867426654869563223938529608368449412151554919355519
def F140.res:List RV:=[.t (.of 2)]
def F140:Fn:={ params:=[(.of 0)],res:=F140.res,body:=F140.b0,init:=in4 }
theorem F140.ok:fnA Tryz.prog Tryz.f140 [0,1,2,28]=some F140:=by kernel_rfl
abbrev F141.fr:=fr1
def F141.b0:IR:=dI [] 8783874683531185001103405567820812329397464455641565482948873171032502113691115653647077793409964940313134809576887306431529804956041492081070984227028383277735354395127
def F141.res:List RV:=[.t (.of 0)]
def F141:Fn:={ params:=[],res:=F141.res,body:=F141.b0,init:=in1 }
theorem F141.ok:fnA Tryz.prog Tryz.f141 [0]=some F141:=by kernel_rfl
abbrev F142.fr:=fr3
def F142.b0:IR:=dI [] 91836250650964160265423921111465214947840503
def F142.res:List RV:=[.t (.of 1)]
def F142:Fn:={ params:=[(.of 0)],res:=F142.res,body:=F142.b0,init:=in3 }
theorem F142.ok:fnA Tryz.prog Tryz.f142 [0,2,4]=some F142:=by kernel_rfl
abbrev F144.fr:=fr4
def F144.b0:IR:=dI [] 6411967232064986546752729606478801447445504365940159615
def F144.res:List RV:=[.t (.of 3)]
def F144:Fn:={ params:=[(.of 0),(.of 1)],res:=F144.res,body:=F144.b0,init:=in4 }
theorem F144.ok:fnA Tryz.prog Tryz.f144 [0,1,2,4]=some F144:=by kernel_rfl
abbrev F145.fr:=fr19
def F145.b0:IR:=dI [] 1042779278495067126960724969983022350446759760264623868163154156793636115670705587385967918955089735508203990872224234316170411972973831726943539637942901649288296142679923961649438001391132166497531381165311314687709578638955040125936709273366491634000738459732530239661864263314056247746082839884700191286278108198015
def F145.res:List RV:=[.t (.of 3)]
def F145:Fn:={ params:=[(.of 0),(.of 1)],res:=F145.res,body:=F145.b0,init:=in19 }
theorem F145.ok:fnA Tryz.prog Tryz.f145 [0,1,2,4,5,6,7,8,10,14,15,16,17,22,23,24,25,40,45]=some F145:=by kernel_rfl
abbrev F151.fr:=fr3
def F151.b0:IR:=dI [] 2557899603593616547091703
def F151.res:List RV:=[.t (.of 2)]
def F151:Fn:={ params:=[(.of 0),(.of 1)],res:=F151.res,body:=F151.b0,init:=in3 }
theorem F151.ok:fnA Tryz.prog Tryz.f151 [0,1,4]=some F151:=by kernel_rfl
abbrev F152.fr:=fr19
def F152.b0:IR:=dI [] 168733215228973934381056652564100631104283314511435118152212338507032061634747928746230177039417021474815678866998213602781894659439664994885065452419670688402588296789492589262177815847828987218594609313763580488949225297087444561515084720940675639902224803481182474831753089435084334140524666062391479753288328469156822249100974951591417778529631090514486439347538785451596426902353719
def F152.res:List RV:=[.cell (.of 2) (some 2)]
def F152:Fn:={ params:=[(.of 0),(.of 1)],res:=F152.res,body:=F152.b0,init:=in19 }
theorem F152.ok:fnA Tryz.prog Tryz.f152 [0,1,4,5,6,7,9,10,11,21,26,27,28,29,35,36,37,41,55]=some F152:=by kernel_rfl
abbrev F153.fr:=fr12
def F153.b0:IR:=dI [] 317682889559624717083916188960966042578323286712129482790224837565625923717903787692370522330535948034623691203263839029723127318104491748244148360414444246917379516079608862000785123507281139630866282295
def F153.res:List RV:=[.cell (.of 2) (some 2)]
def F153:Fn:={ params:=[(.of 0),(.of 1)],res:=F153.res,body:=F153.b0,init:=in12 }
theorem F153.ok:fnA Tryz.prog Tryz.f153 [0,1,4,5,6,8,9,13,14,15,16,27]=some F153:=by kernel_rfl
abbrev F154.fr:=fr9
def F154.b0:IR:=dI [] 195925645671832428057307662283607128139046541010191740103459479342602032604124590444916770147318215199238764697103680124031
def F154.res:List RV:=[.t (.of 3)]
def F154:Fn:={ params:=[(.of 0),(.of 1)],res:=F154.res,body:=F154.b0,init:=in9 }
theorem F154.ok:fnA Tryz.prog Tryz.f154 [0,1,3,4,5,6,7,8,9]=some F154:=by kernel_rfl
abbrev F155.fr:=fr9
def F155.b0:IR:=dI [] 3134810330749318848916922596537714050224744646906937719394869096254480744078198707767133455145238670271934002194775495128191
def F155.res:List RV:=[.t (.of 3)]
def F155:Fn:={ params:=[(.of 0),(.of 1)],res:=F155.res,body:=F155.b0,init:=in9 }
theorem F155.ok:fnA Tryz.prog Tryz.f155 [0,1,3,4,5,6,7,8,9]=some F155:=by kernel_rfl
abbrev F168.fr:=fr4
def F168.b0:IR:=dI [] 321981288800440127334136411390874782639276836604196729260548086187304355661839905275648299529057306225572216288383
def F168.res:List RV:=[.t (.of 3)]
def F168:Fn:={ params:=[(.of 0),(.of 1)],res:=F168.res,body:=F168.b0,init:=in4 }
theorem F168.ok:fnA Tryz.prog Tryz.f168 [0,1,2,4]=some F168:=by kernel_rfl
abbrev F169.fr:=fr11
def F169.b0:IR:=dI [] 857076983809935867453388034260959817018029287603527711779415596010957094332996615824752008357383585830534076047961963174539236986642952148420717676563161713465598916040547174966613788365840023452520027358722899477777855615
def F169.res:List RV:=[.t (.of 3)]
def F169:Fn:={ params:=[(.of 0),(.of 1)],res:=F169.res,body:=F169.b0,init:=in11 }
theorem F169.ok:fnA Tryz.prog Tryz.f169 [0,1,2,4,5,6,7,12,13,14,15]=some F169:=by kernel_rfl
abbrev F170.fr:=fr3
def F170.b0:IR:=dI [] 2672483949632529343420318550282743
def F170.res:List RV:=[.t (.of 1)]
def F170:Fn:={ params:=[(.of 0)],res:=F170.res,body:=F170.b0,init:=in3 }
theorem F170.ok:fnA Tryz.prog Tryz.f170 [0,2,3]=some F170:=by kernel_rfl
abbrev F171.fr:=fr3
def F171.b0:IR:=dI [] 328201576481914685350466687
def F171.res:List RV:=[.t (.of 2)]
def F171:Fn:={ params:=[(.of 0)],res:=F171.res,body:=F171.b0,init:=in3 }
theorem F171.ok:fnA Tryz.prog Tryz.f171 [0,1,2]=some F171:=by kernel_rfl
abbrev eG.fr:=fr3
def eG.b0:IR:=dI [] 2557899602714007244870903
def eG.res:List RV:=[.t (.of 2)]
def eG:Fn:={ params:=[(.of 0),(.of 1)],res:=eG.res,body:=eG.b0,init:=in3 }
theorem eG.ok:fnA Tryz.prog Tryz.f173 [0,1,4]=some eG:=by kernel_rfl
abbrev eF.fr:=fr4
def eF.b0:IR:=dI [] 3303168316048389022998655658129406480559607
def eF.res:List RV:=[.t (.of 3)]
def eF:Fn:={ params:=[(.of 0),(.of 1),(.of 2)],res:=eF.res,body:=eF.b0,init:=in4 }
theorem eF.ok:fnA Tryz.prog Tryz.f174 [0,1,2,4]=some eF:=by kernel_rfl
abbrev eD.fr:=fr3
def eD.b0:IR:=dI [] 2557899603787130593580279
def eD.res:List RV:=[.t (.of 2)]
def eD:Fn:={ params:=[(.of 0),(.of 1)],res:=eD.res,body:=eD.b0,init:=in3 }
theorem eD.ok:fnA Tryz.prog Tryz.f175 [0,1,4]=some eD:=by kernel_rfl
abbrev eB.fr:=fr3
def eB.b0:IR:=dI [] 1246284640979617027319
def eB.res:List RV:=[.t (.of 2)]
def eB:Fn:={ params:=[(.of 0),(.of 1)],res:=eB.res,body:=eB.b0,init:=in3 }
theorem eB.ok:fnA Tryz.prog Tryz.f176 [0,1,3]=some eB:=by kernel_rfl
abbrev vo.fr:=fr9
def vo.b4:IR:=dI [] 113040471248697608553528289288954140837238256237075677804150456079731538000823
def vo.b3:IR:=(.loop vo.b4)
def vo.g2 (X3:IR):IR:=(.block 0 X3)
def vo.b2:IR:=vo.g2 vo.b3
def vo.b9:IR:=dI [] 353527
def vo.b0:IR:=dI [vo.b2,vo.b9] 513378920010015025844132655418816998908207404279
def vo.res:List RV:=[.t (.of 2)]
def vo:Fn:={ params:=[(.of 0),(.of 1)],res:=vo.res,body:=vo.b0,init:=in9 }
theorem vo.ok:fnA Tryz.prog Tryz.f177 [0,1,4,5,10,12,13,14,24]=some vo:=by kernel_rfl
abbrev F178.fr:=fr9
def F178.b0:IR:=dI [] 20746716710098486937462945218773631109516995589738701081647227733418398080753986534698896272955861460563071
def F178.res:List RV:=[.t (.of 3)]
def F178:Fn:={ params:=[(.of 0),(.of 1)],res:=F178.res,body:=F178.b0,init:=in9 }
theorem F178.ok:fnA Tryz.prog Tryz.f178 [0,1,3,4,5,7,8,9,16]=some F178:=by kernel_rfl
abbrev rJ.fr:=fr3
def rJ.t0:IR:=.reg (dA [] 9533)
def rJ.t1:IR:=.reg (dA [] 534240578261347793)
def rJ.t3:IR:=.seq rJ.t0 (.seq rJ.t1 .ret)
def rJ.b0:IR:=rJ.t3
def rJ.res:List RV:=[.t (.of 2)]
def rJ:Fn:={ params:=[(.of 0),(.of 1)],res:=rJ.res,body:=rJ.b0,init:=in3 }
theorem rJ.ok:fnA Tryz.prog Tryz.f179 [0,1,4]=some rJ:=by kernel_rfl
abbrev rH.fr:=fr3
def rH.t0:IR:=.reg (dA [] 624882975)
def rH.t1:IR:=.reg (dA [] 320054950857498761017648370692095858144067)
def rH.t3:IR:=.seq rH.t0 (.seq rH.t1 .ret)
def rH.b0:IR:=rH.t3
def rH.res:List RV:=[.t (.of 2)]
def rH:Fn:={ params:=[(.of 0)],res:=rH.res,body:=rH.b0,init:=in3 }
theorem rH.ok:fnA Tryz.prog Tryz.f180 [0,1,2]=some rH:=by kernel_rfl
abbrev jy.fr:=fr9
def jy.t0:IR:=.reg [iQo 1 (.mv (.c .ze))]
def jy.t1:IR:=.reg (dA [] 495922612116947)
def jy.t2:IR:=.reg (dA [] 15321113288187)
def jy.t3:IR:=.reg (dA [] 88731629)
def jy.t5:IR:=.reg (dA [] 150381316222462372222411977)
def jy.t6:IR:=.reg (dA [] 33330037952494021143978185)
def jy.t9:IR:=.reg (dA [] 125028679)
def jy.t12:IR:=.seq jy.t3 (.seq (.cond aT8 .skip (.exit 0)) (.seq (.block 1 (.seq jy.t5 jy.t6)) jy.t9))
def jy.t13:IR:=.loop jy.t12
def jy.t16:IR:=.reg (dA [] 15415)
def jy.t20:IR:=.seq jy.t0 (.seq jy.t1 (.seq (.seq jy.t2 (.block 0 jy.t13)) (.seq jy.t16 .ret)))
def jy.b0:IR:=jy.t20
def jy.res:List RV:=[.t (.of 1)]
def jy:Fn:={ params:=[(.of 0)],res:=jy.res,body:=jy.b0,init:=in9 }
theorem jy.ok:fnA Tryz.prog Tryz.f181 [0,2,3,4,5,9,10,11,12]=some jy:=by kernel_rfl
abbrev rG.fr:=fr3
def rG.t0:IR:=.reg (dA [] 9533)
def rG.t1:IR:=.reg (dA [] 534240587589479889)
def rG.t3:IR:=.seq rG.t0 (.seq rG.t1 .ret)
def rG.b0:IR:=rG.t3
def rG.res:List RV:=[.t (.of 2)]
def rG:Fn:={ params:=[(.of 0),(.of 1)],res:=rG.res,body:=rG.b0,init:=in3 }
theorem rG.ok:fnA Tryz.prog Tryz.f182 [0,1,4]=some rG:=by kernel_rfl
abbrev eO.fr:=fr2
def eO.b0:IR:=dI [] 39824100341956609440666103
def eO.res:List RV:=[.t (.of 1)]
def eO:Fn:={ params:=[(.of 0)],res:=eO.res,body:=eO.b0,init:=in2 }
theorem eO.ok:fnA Tryz.prog Tryz.f183 [0,2]=some eO:=by kernel_rfl
abbrev xu.fr:=fr8
def xu.b3:IR:=dI [] 4897636804135882267693722770432862167546901745466502038078607287
def xu.b2:IR:=(.loop xu.b3)
def xu.g1 (X2:IR):IR:=(.block 0 X2)
def xu.b1:IR:=xu.g1 xu.b2
def xu.b8:IR:=dI [] 2370807
def xu.b0:IR:=dI [xu.b1,xu.b8] 829408658496929314039
def xu.res:List RV:=[.t (.of 2)]
def xu:Fn:={ params:=[(.of 0),(.of 1)],res:=xu.res,body:=xu.b0,init:=in8 }
theorem xu.ok:fnA Tryz.prog Tryz.f184 [0,1,4,5,7,8,9,16]=some xu:=by kernel_rfl
abbrev eT.fr:=fr3
def eT.b0:IR:=dI [] 318901602869683878860023
def eT.res:List RV:=[.t (.of 2)]
def eT:Fn:={ params:=[(.of 0),(.of 1)],res:=eT.res,body:=eT.b0,init:=in3 }
theorem eT.ok:fnA Tryz.prog Tryz.f185 [0,1,3]=some eT:=by kernel_rfl
abbrev ny.fr:=fr3
def ny.t0:IR:=.reg (dA [] 5063505183)
def ny.t1:IR:=dI [] 43493169662288117586362029665
def ny.t3:IR:=.seq ny.t0 (.seq ny.t1 .ret)
def ny.b0:IR:=ny.t3
def ny.res:List RV:=[.cell (.of 2) (some 4)]
def ny:Fn:={ params:=[(.of 0)],res:=ny.res,body:=ny.b0,init:=in3 }
theorem ny.ok:fnA Tryz.prog Tryz.f186 [0,1,2]=some ny:=by kernel_rfl
abbrev ng.fr:=fr2
def ng.t0:IR:=.reg (dA [] 30157)
def ng.t1:IR:=.reg (dA [] 6513508198123)
def ng.t3:IR:=.seq ng.t0 (.seq ng.t1 .ret)
def ng.b0:IR:=ng.t3
def ng.res:List RV:=[.cell (.of 1) (some 2)]
def ng:Fn:={ params:=[(.of 0)],res:=ng.res,body:=ng.b0,init:=in2 }
theorem ng.ok:fnA Tryz.prog Tryz.f187 [0,2]=some ng:=by kernel_rfl
abbrev fB.fr:=fr18
def fB.t0:IR:=.reg (dA [] 12771587359)
def fB.t1:IR:=.reg (dA [] 14638987919067)
def fB.t2:IR:=.reg (dA [] 16147188332979)
def fB.t60:IR:=.seq fB.t0 (.seq (.seq fB.t1 (.cond aT12 (.seq fB.t2 .ret) .skip)) (.seq (.reg (dA [] 109717724405265753566563)) (.seq (.reg (dA [] 210609581719207)) (iSr [(iQo 6 (.mv (.c .ze)))] (.seq (.block 0 (.loop (.seq (.seq (.reg (dA [] 461875288043)) (.cond aT13 .skip (.exit 0))) (.block 1 (.seq (.reg (dA [] 76915319491641451474046937)) (.seq (.reg (dA [] 2055613)) (.seq (.seq (.reg (dA [] 1849248920299)) (.cond aT14 (.reg (dA [] 844440549774344218065)) .skip)) (.seq (.seq (.reg (dA [] 924087587435)) (.cond aT15 (.reg (dA [] 29710405861655494470232437862607779)) .skip)) (.seq (.reg (dA [] 37134011942539516824273)) (.reg (dA [] 47415))))))))))) (.seq (.reg (dA [] 32966093)) (.seq (.seq (.reg (dA [] 147069)) (.cond aT16 (.reg (dA [] 621603977181)) .skip)) (.seq (.seq (.reg (dA [] 3841731013331)) (.block 2 (.loop (.seq (.seq (.reg (dA [] 7114577719)) (.cond aT17 .skip (.exit 2))) (.seq (.block 3 (.reg (dA [] 30534262195515869905))) (.reg (dA [] 30013525611))))))) (.seq (.reg (dA [] 4201380831)) .ret)))))))))
def fB.b0:IR:=fB.t60
def fB.res:List RV:=[.t (.of 2)]
def fB:Fn:={ params:=[(.of 0)],res:=fB.res,body:=fB.b0,init:=in18 }
theorem fB.ok:fnA Tryz.prog Tryz.f188 [0,1,2,3,4,5,6,7,8,9,10,11,14,26,35,42,54,60]=some fB:=by kernel_rfl
abbrev rC.fr:=fr5
def rC.t0:IR:=.reg (dA [] 2699541467748923)
def rC.t1:IR:=dI [] 630740931945647990843466985297441
def rC.t3:IR:=.seq rC.t0 (.seq rC.t1 .ret)
def rC.b0:IR:=rC.t3
def rC.res:List RV:=[.cell (.of 4) (some 4)]
def rC:Fn:={ params:=[(.of 0),(.of 1)],res:=rC.res,body:=rC.b0,init:=in5 }
theorem rC.ok:fnA Tryz.prog Tryz.f192 [0,1,2,3,4]=some rC:=by kernel_rfl
abbrev fw.fr:=fr6
def fw.t0:IR:=.reg (dA [] 1842279711)
def fw.t1:IR:=.reg (dA [] 197046487209855685121414744727862476217)
def fw.t2:IR:=.reg (dA [] 977680192410270129)
def fw.t11:IR:=.seq fw.t0 (.seq (.seq fw.t1 (.cond aT5 (.seq fw.t2 .ret) .skip)) (.seq (.reg (dA [] 109717724405265753566563)) (.seq (.reg (dA [] 62566222908911147217)) .ret)))
def fw.b0:IR:=fw.t11
def fw.res:List RV:=[.cell (.of 2) (some 2)]
def fw:Fn:={ params:=[(.of 0)],res:=fw.res,body:=fw.b0,init:=in6 }
theorem fw.ok:fnA Tryz.prog Tryz.f193 [0,1,2,3,4,12]=some fw:=by kernel_rfl
abbrev ni.fr:=fr3
def ni.t0:IR:=.reg (dA [] 222229791)
def ni.t1:IR:=.reg (dA [] 1081546084206993258929)
def ni.t3:IR:=.seq ni.t0 (.seq ni.t1 .ret)
def ni.b0:IR:=ni.t3
def ni.res:List RV:=[.t (.of 2)]
def ni:Fn:={ params:=[(.of 0)],res:=ni.res,body:=ni.b0,init:=in3 }
theorem ni.ok:fnA Tryz.prog Tryz.f194 [0,1,2]=some ni:=by kernel_rfl
abbrev gq.fr:=fr8
def gq.t0:IR:=.reg (dA [] 2699541467748923)
def gq.t1:IR:=.reg (dA [] 15146506088029019)
def gq.t2:IR:=dI [] 376348556277025443996058704631598339361
def gq.t5:IR:=.reg (dA [] 3078972849484534965948975006017461689)
def gq.t6:IR:=.reg (dA [] 73428044945226166711987)
def gq.t10:IR:=.reg (dA [] 95979080168058945078048433)
def gq.t11:IR:=dI [] 11914356682747124757525697356675938625792836762163664673
def gq.t13:IR:=.seq gq.t10 (.seq gq.t11 .ret)
def gq.t14:IR:=.seq (.seq gq.t5 (.cond aT7 (.seq gq.t6 .ret) .skip)) gq.t13
def gq.t16:IR:=.seq gq.t0 (.seq (.seq gq.t1 (.cond aT6 gq.t2 .skip)) gq.t14)
def gq.b0:IR:=gq.t16
def gq.res:List RV:=[.cell (.of 4) (some 4)]
def gq:Fn:={ params:=[(.of 0),(.of 1)],res:=gq.res,body:=gq.b0,init:=in8 }
theorem gq.ok:fnA Tryz.prog Tryz.f195 [0,1,2,3,4,5,8,20]=some gq:=by kernel_rfl
abbrev wz.fr:=fr14
def wz.t0:IR:=.reg (dA [] 1010691607484987)
def wz.t1:IR:=.reg (dA [] 98528876659798116569460147585942035897)
def wz.t2:IR:=.reg (dA [] 26868819497322921)
def wz.t3:IR:=.reg (dA [] 4675514515435278684058661849)
def wz.t4:IR:=.reg (dA [] 17425062906347)
def wz.t30:IR:=.seq wz.t0 (.seq (.seq wz.t1 (.cond aT10 (.seq wz.t2 (.seq wz.t3 (.cond aT11 (.seq wz.t4 .ret) .skip))) .skip)) (.seq (.reg (dA [] 1125838174961482694421859)) (.seq (.reg (dA [] 3460900826787932576443747)) (.seq (.block 0 (.seq (.reg (dA [] 28465099557587)) (.cond aT12 (.seq (.reg (dA [] 78475076700736170496832621257)) .ret) (.seq (.reg (dA [] 45779098874076841169)) (.cond aT13 (.seq (.reg (dA [] 78475076700736170771710528201)) .ret) .skip))))) (.seq (.reg (dA [] 156950153401472341543012246985)) .ret)))))
def wz.b0:IR:=wz.t30
def wz.res:List RV:=[.cell (.of 4) (some 2)]
def wz:Fn:={ params:=[(.of 0),(.of 1)],res:=wz.res,body:=wz.b0,init:=in14 }
theorem wz.ok:fnA Tryz.prog Tryz.f197 [0,1,2,3,4,5,6,7,8,9,17,30,43,52]=some wz:=by kernel_rfl
abbrev uq.fr:=fr14
def uq.t0:IR:=.reg (dA [] 1010691607484987)
def uq.t1:IR:=.reg (dA [] 98526280511368849155645882337777425849)
def uq.t2:IR:=dI [] 371851410419117819560677761468065223089183645222883361
def uq.t3:IR:=.reg (dA [] 759766088847767783006462676308937)
def uq.t4:IR:=.reg (dA [] 9068407488566534778393443)
def uq.t5:IR:=.reg (dA [] 146172022092099652305)
def uq.t9:IR:=.reg (dA [] 71373057656523475)
def uq.t24:IR:=.seq uq.t0 (.seq (.seq uq.t1 (.cond aT11 (.seq uq.t2 (.seq uq.t3 (.cond aT12 (.seq (.seq uq.t4 (.cond aT13 (.seq uq.t5 .ret) .skip)) (.seq uq.t9 .ret)) .skip))) .skip)) (.seq (.reg (dA [] 1201801867057018627976547)) (.seq (.reg (dA [] 9656903906729939030535523)) (.seq (.reg (dA [] 2633186624849636205952288929636271321)) .ret))))
def uq.b0:IR:=uq.t24
def uq.res:List RV:=[.cell (.of 4) (some 2)]
def uq:Fn:={ params:=[(.of 0),(.of 1)],res:=uq.res,body:=uq.b0,init:=in14 }
theorem uq.ok:fnA Tryz.prog Tryz.f198 [0,1,2,3,4,5,6,7,8,9,10,18,34,41]=some uq:=by kernel_rfl
abbrev F199.fr:=fr8
def F199.b0:IR:=dI [] 2358115190340928305378483436654546612551473813906463817545775853226853122323217713877017867511
def F199.res:List RV:=[.t (.of 2)]
def F199:Fn:={ params:=[(.of 0),(.of 1)],res:=F199.res,body:=F199.b0,init:=in8 }
theorem F199.ok:fnA Tryz.prog Tryz.f199 [0,1,4,5,7,8,9,16]=some F199:=by kernel_rfl
abbrev F200.fr:=fr5
def F200.b0:IR:=dI [] 7759223913238830336466237136251344367690581593690638058042856084971936616910645487
def F200.res:List RV:=[.t (.of 4)]
def F200:Fn:={ params:=[(.of 0),(.of 1)],res:=F200.res,body:=F200.b0,init:=in5 }
theorem F200.ok:fnA Tryz.prog Tryz.f200 [0,1,2,3,4]=some F200:=by kernel_rfl
abbrev ug.fr:=fr18
def ug.t0:IR:=.reg (dA [] 65398791572261942387)
def ug.rR (r:List RO):List RO:=dA r 183497877252240859608485373009
def ug.sQ:List RO:=ug.rR []
def ug.rQ (r:List RO):List RO:=dA r 1539286361158389275643045615270108601
def ug.si:List RO:=ug.rQ ug.sQ
def ug.t1:IR:=.reg ug.si
def ug.t2:IR:=dI [] 165930510643124933528816692381043916783538209
def ug.t3:IR:=.reg (dA [] 1811540279)
def ug.t4:IR:=dI [] 2359484432962611558999715306273
def ug.t7:IR:=.reg (dA [] 3071348645507917502604020425)
def ug.t29:IR:=.seq ug.t0 (.seq (.seq ug.t1 (.cond aT15 (.seq ug.t2 (.seq (.seq ug.t3 (.cond aT16 ug.t4 .skip)) (.seq ug.t7 .ret))) .skip)) (.seq (.reg (dA [] 3460900826787932576181603)) (.seq (.reg (dA [] 604233427847252985802083)) (.seq (.reg (dA [] 2004322552664937677565040089)) (.seq (.reg (dA [] 557660592916778439388133860493223533402472650807073)) (.seq (.seq (.reg (dA [] 1937104932182358875)) (.cond aT17 (.rO [] [((.s (.zw 2 aT13)),1,[]),((.s (.zw 2 aT14)),2,[]),((.s (.zw 2 aT3)),2,[]),((iCa 187 [aC1]),0,[]),((iCa 266 [aS3,aS0]),0,[]),((iCa 197 [aS3,aS2]),0,[]),((.w .none none (.store 2 aT13 aS1)),0,[]),((.w .none none (.store 2 aT14 aS0)),0,[])]) .skip)) (.seq (.rO [] [((.s (.zw 2 aT13)),0,[]),((.s (.zw 2 aT14)),1,[]),((.w .none none (.store 2 aT4 aS1)),0,[]),((.w .none none (.store 2 aT5 aS0)),0,[])]) .ret)))))))
def ug.b0:IR:=ug.t29
def ug.res:List RV:=[.cell (.of 4) (some 2),.cell (.of 5) (some 2)]
def ug:Fn:={ params:=[(.of 0),(.of 1)],res:=ug.res,body:=ug.b0,init:=in18 }
theorem ug.ok:fnA Tryz.prog Tryz.f201 [0,1,2,3,4,5,6,7,8,9,11,12,13,14,15,28,40,75]=some ug:=by kernel_rfl
abbrev jf.fr:=fr6
def jf.t0:IR:=.reg (dA [] 259533)
def jf.t1:IR:=.reg (dA [] 322375674204608140060586537882153433987)
def jf.t2:IR:=.reg [iQo 4 (.mv aT2)]
def jf.t3:IR:=.reg (dA [] 5621819115)
def jf.t6:IR:=.reg [iQo 3 (.mv (.c .ze))]
def jf.t7:IR:=.reg (dA [] 10642254737131)
def jf.t10:IR:=.reg (dA [] 33091545016958715446608856821374158305469217)
def jf.t11:IR:=.reg (dA [] 1548443548491684179401)
def jf.t14:IR:=.seq (.seq jf.t7 (.cond aT5 .skip (.exit 0))) (.block 1 (.seq jf.t10 jf.t11))
def jf.t15:IR:=.loop jf.t14
def jf.t17:IR:=.reg (dA [] 16126560007655837682810889063059858677977)
def jf.t20:IR:=.seq jf.t6 (.seq (.block 0 jf.t15) (.seq jf.t17 .ret))
def jf.t23:IR:=.seq jf.t0 (.seq jf.t1 (.seq (.seq jf.t2 (.cond aT4 jf.t3 .skip)) jf.t20))
def jf.b0:IR:=jf.t23
def jf.res:List RV:=[.cell (.of 1) (some 2)]
def jf:Fn:={ params:=[(.of 0)],res:=jf.res,body:=jf.b0,init:=in6 }
theorem jf.ok:fnA Tryz.prog Tryz.f205 [0,2,3,4,13,18]=some jf:=by kernel_rfl
abbrev gm.fr:=fr5
def gm.t0:IR:=.reg [iQo 1 (.mv aC0)]
def gm.t1:IR:=.reg [iQo 2 (.mv aC0)]
def gm.t2:IR:=.reg (dA [] 16474692313299)
def gm.t5:IR:=.reg (dA [] 169065705802067411)
def gm.t6:IR:=.reg (dA [] 15415)
def gm.t11:IR:=.reg (dA [] 60702827)
def gm.t13:IR:=.seq (.seq gm.t2 (.cond aT3 .skip (.exit 0))) (.seq (.block 1 (.seq gm.t5 (.cond aT4 (.seq gm.t6 .ret) .skip))) gm.t11)
def gm.t14:IR:=.loop gm.t13
def gm.t17:IR:=.reg (dA [] 15740651)
def gm.t20:IR:=.seq gm.t0 (.seq (.seq gm.t1 (.block 0 gm.t14)) (.seq gm.t17 .ret))
def gm.b0:IR:=gm.t20
def gm.res:List RV:=[.t (.of 1)]
def gm:Fn:={ params:=[(.of 0)],res:=gm.res,body:=gm.b0,init:=in5 }
theorem gm.ok:fnA Tryz.prog Tryz.f206 [0,2,3,7,13]=some gm:=by kernel_rfl
abbrev kg.fr:=fr3
def kg.t0:IR:=.reg (dA [] 38013)
def kg.rR (r:List RO):List RO:=dA r 3813743853114502018500961343563939819121
def kg.sQ:List RO:=kg.rR []
def kg.rQ (r:List RO):List RO:=dA r 73271029781934769841876701830617
def kg.si:List RO:=kg.rQ kg.sQ
def kg.t1:IR:=.reg kg.si
def kg.t4:IR:=.cond aT2 (.seq (.reg (dA [] 38013)) .ret) .skip
def kg.t6:IR:=.reg (dA [] 32953589483)
def kg.t7:IR:=.seq kg.t6 .ret
def kg.t9:IR:=.seq kg.t0 (.seq (.seq kg.t1 kg.t4) kg.t7)
def kg.b0:IR:=kg.t9
def kg.res:List RV:=[.t (.of 1)]
def kg:Fn:={ params:=[(.of 0)],res:=kg.res,body:=kg.b0,init:=in3 }
theorem kg.ok:fnA Tryz.prog Tryz.f207 [0,2,15]=some kg:=by kernel_rfl
abbrev qa.fr:=fr5
def qa.t0:IR:=.reg [iQo 2 (.mv (.c .ze))]
def qa.t1:IR:=.reg (dA [] 28881243627)
def qa.t4:IR:=.reg (dA [] 1129696244525791560199641)
def qa.t5:IR:=.reg (dA [] 65405742035)
def qa.t8:IR:=.seq (.seq qa.t1 (.cond aT4 .skip (.exit 0))) (.block 1 (.seq qa.t4 qa.t5))
def qa.t9:IR:=.loop qa.t8
def qa.t11:IR:=.reg (dA [] 8055)
def qa.t14:IR:=.seq qa.t0 (.seq (.block 0 qa.t9) (.seq qa.t11 .ret))
def qa.b0:IR:=qa.t14
def qa.res:List RV:=[.t (.of 2)]
def qa:Fn:={ params:=[(.of 0),(.of 1)],res:=qa.res,body:=qa.b0,init:=in5 }
theorem qa.ok:fnA Tryz.prog Tryz.f208 [0,1,4,6,9]=some qa:=by kernel_rfl
abbrev uo.fr:=fr5
def uo.t0:IR:=.reg [iQo 1 (.mv aC0)]
def uo.t1:IR:=.reg [iQo 2 (.mv aC0)]
def uo.t2:IR:=.reg [iQo 3 (.mv aC0)]
def uo.t3:IR:=.reg (dA [] 16448922511571)
def uo.t6:IR:=.reg (dA [] 36361437829347326735260487079690627)
def uo.t8:IR:=.reg (dA [] 396248171)
def uo.t10:IR:=.seq (.seq uo.t3 (.cond aT4 .skip (.exit 0))) (.seq (.block 1 uo.t6) uo.t8)
def uo.t11:IR:=.loop uo.t10
def uo.t14:IR:=.reg (dA [] 15415)
def uo.t18:IR:=.seq uo.t0 (.seq uo.t1 (.seq (.seq uo.t2 (.block 0 uo.t11)) (.seq uo.t14 .ret)))
def uo.b0:IR:=uo.t18
def uo.res:List RV:=[.t (.of 1)]
def uo:Fn:={ params:=[(.of 0)],res:=uo.res,body:=uo.b0,init:=in5 }
theorem uo.ok:fnA Tryz.prog Tryz.f209 [0,2,3,4,8]=some uo:=by kernel_rfl
abbrev qw.fr:=fr4
def qw.t0:IR:=.reg [iQo 2 (.mv aC0)]
def qw.t1:IR:=.reg (dA [] 112916215)
def qw.t4:IR:=dI [] 8872086888789377644833
def qw.t6:IR:=.seq (.seq qw.t1 (.cond aT3 .skip (.exit 0))) (.block 1 qw.t4)
def qw.t7:IR:=.loop qw.t6
def qw.t9:IR:=.reg (dA [] 8055)
def qw.t12:IR:=.seq qw.t0 (.seq (.block 0 qw.t7) (.seq qw.t9 .ret))
def qw.b0:IR:=qw.t12
def qw.res:List RV:=[.t (.of 2)]
def qw:Fn:={ params:=[(.of 0),(.of 1)],res:=qw.res,body:=qw.b0,init:=in4 }
theorem qw.ok:fnA Tryz.prog Tryz.f210 [0,1,4,6]=some qw:=by kernel_rfl
abbrev jg.fr:=fr5
def jg.t0:IR:=.reg [iQo 2 (.mv (.c (.str [])))]
def jg.t1:IR:=.reg [iQo 3 (.mv (.c (.str [])))]
def jg.zfo (r:List RO):List RO:=dA r 59479409076540486348583901629752217049
def jg.r2_0:List RO:=jg.zfo []
def jg.t2:IR:=.reg jg.r2_0
def jg.t3:IR:=.cond aT4 .skip (.exit 0)
def jg.t5:IR:=.reg (dA [] 31306327325322001415065836665026321283)
def jg.t6:IR:=.reg (dA [] 359819953899)
def jg.t8:IR:=.block 1 (.seq jg.t5 jg.t6)
def jg.t9:IR:=.seq (.seq jg.t2 jg.t3) jg.t8
def jg.t10:IR:=.loop jg.t9
def jg.t12:IR:=.reg (dA [] 7735)
def jg.t13:IR:=.seq jg.t12 .ret
def jg.t16:IR:=.seq jg.t0 (.seq jg.t1 (.seq (.block 0 jg.t10) jg.t13))
def jg.b0:IR:=jg.t16
def jg.res:List RV:=[.t (.of 2)]
def jg:Fn:={ params:=[(.of 0),(.of 1)],res:=jg.res,body:=jg.b0,init:=in5 }
theorem jg.ok:fnA Tryz.prog Tryz.f211 [0,1,4,5,13]=some jg:=by kernel_rfl
abbrev nk.fr:=fr3
def nk.t0:IR:=.reg (dA [] 16874665247)
def nk.t1:IR:=.reg (dA [] 65611948213484532591588195)
def nk.t3:IR:=.seq nk.t0 (.seq nk.t1 .ret)
def nk.b0:IR:=nk.t3
def nk.res:List RV:=[.cell (.of 2) (some 2)]
def nk:Fn:={ params:=[(.of 0)],res:=nk.res,body:=nk.b0,init:=in3 }
theorem nk.ok:fnA Tryz.prog Tryz.f212 [0,1,2]=some nk:=by kernel_rfl
end
end Go.Ev
