/- a part of the proof -/
import Derived.Test.YtkajmpgbnbikiaaGreatDoorPab
import Derived.Test.YtkajmpgbnbikiaaGreatDoorProg
set_option linter.all false
set_option maxRecDepth 20000
namespace Go.Va
open Go.Proofs
def Pg:TI:={ size:=1,bytes:=8,zero:=[.d .nilFn] }
def Ue:TI:={ size:=1,bytes:=8,zero:=[.d (.int .i64 0)] }
def Xu:TI:={ size:=1,bytes:=8,zero:=[.d (.int .i64 0)] }
def Tm:TI:={ size:=1,bytes:=1,zero:=[.d (.bool false)] }
def V6:TI:={ size:=1,bytes:=1,zero:=[.d (.int .u8 0)] }
def Sd:TI:={ size:=1,bytes:=1,zero:=[.d (.int .u8 0)] }
def Pb:TI:={ agg:=true,size:=4,bytes:=24,zero:=[.d (.int .i64 0),.d (.int .i64 0),.d (.bool false),.d (.int .u8 0)],flds:=[(0,2),(1,3),(2,4),(3,6)],flat:=true }
def RQ:TI:={ agg:=true,size:=4,bytes:=24,zero:=[.d (.int .i64 0),.d (.int .i64 0),.d (.bool false),.d (.int .u8 0)],flds:=[(0,2),(1,3),(2,4),(3,6)],flat:=true }
def WI:TI:={ size:=1,bytes:=16,zero:=[.d (.str ByteArray.empty)] }
def M3:TI:={ size:=1,bytes:=16,zero:=[.d (.str ByteArray.empty)] }
def Mj:TI:={ size:=1,bytes:=16,zero:=[.d (.str ByteArray.empty)] }
def SD:TI:={ size:=1,bytes:=8,zero:=[.d (.int .u64 0)] }
def N0:TI:={ agg:=true,size:=2,bytes:=24,zero:=[.d (.str ByteArray.empty),.d (.int .u64 0)],flds:=[(0,9),(1,12)] }
def P3:TI:={ agg:=true,size:=2,bytes:=24,zero:=[.d (.str ByteArray.empty),.d (.int .u64 0)],flds:=[(0,9),(1,12)] }
def Wm:TI:={ size:=1,bytes:=8,zero:=[.d .nilPtr] }
def Ns:TI:={ size:=1,bytes:=8,zero:=[.d .nilPtr] }
def TH:TI:={ size:=1,bytes:=8,zero:=[.d .nilPtr] }
def O3:TI:={ agg:=true,size:=1,bytes:=8,zero:=[.d .nilPtr],flds:=[(0,17)] }
def Q4:TI:={ agg:=true,size:=1,bytes:=8,zero:=[.d .nilPtr],flds:=[(0,17)] }
def RL:TI:={ size:=1,bytes:=16,zero:=[.d (.lit .nilIface)] }
def LZ:TI:={ size:=1,bytes:=4,zero:=[.d (.int .i32 0)] }
def VE:TI:={ size:=1,bytes:=24,zero:=[.nl],sl:=some 53 }
def We:TI:={ size:=1,bytes:=24,zero:=[.nl],sl:=some 55 }
def NQ:TI:={ agg:=true,size:=2,bytes:=48,zero:=[.nl,.nl],flds:=[(0,22),(1,23)] }
def TK:TI:={ agg:=true,size:=2,bytes:=48,zero:=[.nl,.nl],flds:=[(0,22),(1,23)] }
def Tg:TI:={ size:=1,bytes:=8,zero:=[.d .nilFn] }
def RH:TI:={ size:=1,bytes:=8,zero:=[.d .nilFn] }
def Nf:TI:={ size:=1,bytes:=8,zero:=[.d (.int .i64 0)] }
def Ox:TI:={ size:=1,bytes:=8,zero:=[.d .nilFn] }
def Qb:TI:={ size:=1,bytes:=8,zero:=[.d .nilFn] }
def QM:TI:={ size:=1,bytes:=24,zero:=[.nl],sl:=some 91 }
def OB:TI:={ size:=1,bytes:=24,zero:=[.nl],sl:=some 51 }
def NX:TI:={ agg:=true,size:=2,bytes:=48,zero:=[.nl,.nl],flds:=[(0,31),(1,32)] }
def WS:TI:={ agg:=true,size:=2,bytes:=48,zero:=[.nl,.nl],flds:=[(0,31),(1,32)] }
def LR:TI:={ size:=1,bytes:=8,zero:=[.d .nilFn] }
def Qo:TI:={ size:=1,bytes:=8,zero:=[.d .nilFn] }
def Wf:TI:={ size:=1,bytes:=8,zero:=[.d .nilFn] }
def PC:TI:={ size:=1,bytes:=24,zero:=[.nl],sl:=some 85 }
def SF:TI:={ size:=1,bytes:=8,zero:=[.d .nilFn] }
def SL:TI:={ size:=1,bytes:=8,zero:=[.d .nilFn] }
def Nj:TI:={ size:=1,bytes:=8,zero:=[.d .nilFn] }
def Qw:TI:={ size:=1,bytes:=24,zero:=[.nl],sl:=some 3 }
def On:TI:={ size:=1,bytes:=24,zero:=[.nl],sl:=some 209 }
def MD:TI:={ size:=1,bytes:=24,zero:=[.nl],sl:=some 209 }
def Po:TI:={ agg:=true,size:=2,bytes:=32,zero:=[.d (.bool false),.nl],flds:=[(0,4),(1,45)] }
def Xs:TI:={ agg:=true,size:=2,bytes:=32,zero:=[.d (.bool false),.nl],flds:=[(0,4),(1,45)] }
def VO:TI:={ agg:=true,size:=3,bytes:=56,zero:=[.d (.bool false),.nl,.nl],flds:=[(0,47),(2,45)] }
def Tw:TI:={ agg:=true,size:=3,bytes:=56,zero:=[.d (.bool false),.nl,.nl],flds:=[(0,47),(2,45)] }
def Un:TI:={ agg:=true,size:=5,bytes:=88,zero:=[.d (.int .i64 0),.nl,.d (.bool false),.nl,.nl],flds:=[(0,3),(1,43),(2,49)] }
def Tn:TI:={ agg:=true,size:=5,bytes:=88,zero:=[.d (.int .i64 0),.nl,.d (.bool false),.nl,.nl],flds:=[(0,3),(1,43),(2,49)] }
def PA:TI:={ agg:=true,size:=7,bytes:=120,zero:=[.d (.int .i64 0),.nl,.d (.bool false),.nl,.nl,.d (.int .i64 0),.nl],flds:=[(0,51),(5,3),(6,43)] }
def Up:TI:={ agg:=true,size:=7,bytes:=120,zero:=[.d (.int .i64 0),.nl,.d (.bool false),.nl,.nl,.d (.int .i64 0),.nl],flds:=[(0,51),(5,3),(6,43)] }
def Qy:TI:={ agg:=true,size:=2,bytes:=32,zero:=[.d (.int .i64 0),.nl],flds:=[(0,3),(1,43)] }
def Pe:TI:={ agg:=true,size:=2,bytes:=32,zero:=[.d (.int .i64 0),.nl],flds:=[(0,3),(1,43)] }
def Mr:TI:={ size:=1,bytes:=8,zero:=[.d .nilFn] }
def OM:TI:={ size:=1,bytes:=8,zero:=[.d .nilFn] }
def Pt:TI:={ size:=1,bytes:=24,zero:=[.nl],sl:=some 62 }
def Np:TI:={ size:=1,bytes:=8,zero:=[.d .nilFn] }
def N3:TI:={ size:=1,bytes:=16,zero:=[.d (.lit .nilIface)] }
def RS:TI:={ size:=1,bytes:=16,zero:=[.d (.lit .nilIface)] }
def Nm:TI:={ agg:=true,size:=8,bytes:=128,zero:=[.d (.int .i64 0),.nl,.d (.bool false),.nl,.nl,.d (.int .i64 0),.nl,.d (.int .i64 0)],flds:=[(0,53),(7,3)] }
def P7:TI:={ agg:=true,size:=8,bytes:=128,zero:=[.d (.int .i64 0),.nl,.d (.bool false),.nl,.nl,.d (.int .i64 0),.nl,.d (.int .i64 0)],flds:=[(0,53),(7,3)] }
def O6:TI:={ size:=1,bytes:=8,zero:=[.d .nilFn] }
def MJ:TI:={ agg:=true,size:=3,bytes:=40,zero:=[.d (.int .i64 0),.nl,.d (.int .i64 0)],flds:=[(0,55),(2,3)] }
def Ry:TI:={ agg:=true,size:=3,bytes:=40,zero:=[.d (.int .i64 0),.nl,.d (.int .i64 0)],flds:=[(0,55),(2,3)] }
def WC:TI:={ size:=1,bytes:=8,zero:=[.d .nilFn] }
def Mn:TI:={ size:=1,bytes:=8,zero:=[.d .nilFn] }
def TX:TI:={ size:=1,bytes:=8,zero:=[.d .nilFn] }
def Nv:TI:={ size:=1,bytes:=8,zero:=[.d .nilFn] }
def Ug:TI:={ size:=1,bytes:=8,zero:=[.d .nilFn] }
def Vv:TI:={ size:=1,bytes:=8,zero:=[.d .nilFn] }
def Ni:TI:={ size:=1,bytes:=8,zero:=[.d .nilFn] }
def LY:TI:={ size:=1,bytes:=8,zero:=[.d .nilFn] }
def Pi:TI:={ size:=1,bytes:=8,zero:=[.d .nilFn] }
def UC:TI:={ size:=1,bytes:=8,zero:=[.d .nilFn] }
def Tu:TI:={ size:=1,bytes:=8,zero:=[.d .nilFn] }
def PK:TI:={ size:=1,bytes:=8,zero:=[.d .nilFn] }
def O5:TI:={ size:=1,bytes:=24,zero:=[.nl],sl:=some 49 }
def PE:TI:={ size:=1,bytes:=8,zero:=[.d .nilFn] }
def Q1:TI:={ agg:=true,size:=6,bytes:=112,zero:=[.d (.bool false),.nl,.nl,.d (.bool false),.nl,.nl],flds:=[(0,49),(3,49)] }
def Mx:TI:={ agg:=true,size:=6,bytes:=112,zero:=[.d (.bool false),.nl,.nl,.d (.bool false),.nl,.nl],flds:=[(0,49),(3,49)] }
def MA:TI:={ size:=1,bytes:=8,zero:=[.d .nilFn] }
def OA:TI:={ agg:=true,size:=3,bytes:=40,zero:=[.d (.int .i64 0),.nl,.d (.int .i64 0)],flds:=[(0,3),(1,43),(2,3)] }
def Xc:TI:={ agg:=true,size:=3,bytes:=40,zero:=[.d (.int .i64 0),.nl,.d (.int .i64 0)],flds:=[(0,3),(1,43),(2,3)] }
def TW:TI:={ size:=1,bytes:=8,zero:=[.d .nilFn] }
def Wa:TI:={ agg:=true,size:=6,bytes:=104,zero:=[.d (.int .i64 0),.d (.str ByteArray.empty),.nl,.d (.bool false),.nl,.nl],flds:=[(0,3),(1,9),(2,43),(3,49)] }
def P6:TI:={ agg:=true,size:=6,bytes:=104,zero:=[.d (.int .i64 0),.d (.str ByteArray.empty),.nl,.d (.bool false),.nl,.nl],flds:=[(0,3),(1,9),(2,43),(3,49)] }
def SB:TI:={ size:=1,bytes:=8,zero:=[.d .nilFn] }
def VX:TI:={ size:=1,bytes:=24,zero:=[.nl],sl:=some 5 }
def Xg:TI:={ size:=1,bytes:=8,zero:=[.d .nilFn] }
def Mq:TI:={ size:=1,bytes:=8,zero:=[.d .nilFn] }
def RE:TI:={ size:=1,bytes:=8,zero:=[.d .nilFn] }
def Mu:TI:={ size:=1,bytes:=8,zero:=[.d .nilFn] }
def MU:TI:={ size:=1,bytes:=8,zero:=[.d .nilFn] }
def L8:TI:={ size:=1,bytes:=24,zero:=[.nl],sl:=some 214 }
def L6:TI:={ agg:=true,size:=4,bytes:=88,zero:=[.d (.str ByteArray.empty),.nl,.nl,.nl],flds:=[(0,9),(1,100),(2,100),(3,100)] }
def QE:TI:={ agg:=true,size:=4,bytes:=88,zero:=[.d (.str ByteArray.empty),.nl,.nl,.nl],flds:=[(0,9),(1,100),(2,100),(3,100)] }
def Wo:TI:={ size:=1,bytes:=8,zero:=[.d .nilFn] }
def Rs:TI:={ size:=1,bytes:=8,zero:=[.d .nilFn] }
def WN:TI:={ size:=1,bytes:=8,zero:=[.d .nilFn] }
def MI:TI:={ size:=1,bytes:=8,zero:=[.d .nilFn] }
def Ou:TI:={ size:=1,bytes:=8,zero:=[.d .nilFn] }
def QA:TI:={ size:=1,bytes:=8,zero:=[.d .nilFn] }
def Sw:TI:={ size:=1,bytes:=8,zero:=[.d .nilFn] }
def L5:TI:={ size:=1,bytes:=8,zero:=[.d .nilFn] }
def P8:TI:={ size:=1,bytes:=8,zero:=[.d .nilFn] }
def QY:TI:={ size:=1,bytes:=8,zero:=[.d .nilFn] }
def Xr:TI:={ size:=1,bytes:=24,zero:=[.nl],sl:=some 116 }
def Tr:TI:={ size:=1,bytes:=8,zero:=[.d .nilFn] }
def VT:TI:={ agg:=true,size:=2,bytes:=16,zero:=[.d (.int .i64 0),.d (.int .i64 0)],arr:=some (2,3),flat:=true }
def NV:TI:={ agg:=true,size:=2,bytes:=16,zero:=[.d (.int .i64 0),.d (.int .i64 0)],arr:=some (2,3),flat:=true }
def Od:TI:={ size:=1,bytes:=8,zero:=[.d .nilFn] }
def Ws:TI:={ size:=1,bytes:=8,zero:=[.d .nilFn] }
def Mi:TI:={ size:=1,bytes:=24,zero:=[.nl],sl:=some 122 }
def PU:TI:={ size:=1,bytes:=8,zero:=[.d .nilFn] }
def Tz:TI:={ agg:=true,size:=6,bytes:=112,zero:=[.d (.int .i64 0),.nl,.d (.bool false),.nl,.nl,.nl],flds:=[(0,51),(5,23)] }
def Vw:TI:={ agg:=true,size:=6,bytes:=112,zero:=[.d (.int .i64 0),.nl,.d (.bool false),.nl,.nl,.nl],flds:=[(0,51),(5,23)] }
def OL:TI:={ size:=1,bytes:=8,zero:=[.d .nilFn] }
def QQ:TI:={ size:=1,bytes:=8,zero:=[.d .nilFn] }
def Qe:TI:={ agg:=true,size:=2,bytes:=16,zero:=[.d (.int .i64 0),.d (.int .i64 0)],flds:=[(0,3),(1,3)],flat:=true }
def Se:TI:={ agg:=true,size:=2,bytes:=16,zero:=[.d (.int .i64 0),.d (.int .i64 0)],flds:=[(0,3),(1,3)],flat:=true }
def OT:TI:={ size:=1,bytes:=8,zero:=[.d .nilFn] }
def RW:TI:={ size:=1,bytes:=8,zero:=[.d .nilFn] }
def RK:TI:={ size:=1,bytes:=8,zero:=[.d .nilFn] }
def TB:TI:={ size:=1,bytes:=8,zero:=[.d .nilFn] }
def Oe:TI:={ size:=1,bytes:=8,zero:=[.d .nilFn] }
def Wd:TI:={ size:=1,bytes:=8,zero:=[.d .nilFn] }
def Tp:TI:={ size:=1,bytes:=8,zero:=[.d .nilFn] }
def OF:TI:={ size:=1,bytes:=8,zero:=[.d .nilFn] }
def Py:TI:={ size:=1,bytes:=8,zero:=[.d .nilFn] }
def Rj:TI:={ size:=1,bytes:=8,zero:=[.d .nilFn] }
def QP:TI:={ size:=1,bytes:=8,zero:=[.d .nilFn] }
def WK:TI:={ size:=1,bytes:=8,zero:=[.d .nilFn] }
def MG:TI:={ size:=1,bytes:=24,zero:=[.nl],sl:=some 143 }
def Sr:TI:={ size:=1,bytes:=8,zero:=[.d .nilFn] }
def Nu:TI:={ agg:=true,size:=8,bytes:=144,zero:=[.d (.int .i64 0),.nl,.d (.bool false),.nl,.nl,.d (.int .i64 0),.nl,.nl],flds:=[(0,53),(7,23)] }
def Me:TI:={ agg:=true,size:=8,bytes:=144,zero:=[.d (.int .i64 0),.nl,.d (.bool false),.nl,.nl,.d (.int .i64 0),.nl,.nl],flds:=[(0,53),(7,23)] }
def TS:TI:={ size:=1,bytes:=8,zero:=[.d .nilFn] }
def Xb:TI:={ size:=1,bytes:=24,zero:=[.nl],sl:=some 272 }
def OY:TI:={ size:=1,bytes:=8,zero:=[.d .nilFn] }
def Pv:TI:={ agg:=true,size:=6,bytes:=104,zero:=[.d (.str ByteArray.empty),.nl,.nl,.nl,.d (.int .i64 0),.d .nilFn],flds:=[(0,9),(1,145),(2,145),(3,145),(4,3),(5,146)] }
def Mb:TI:={ agg:=true,size:=6,bytes:=104,zero:=[.d (.str ByteArray.empty),.nl,.nl,.nl,.d (.int .i64 0),.d .nilFn],flds:=[(0,9),(1,145),(2,145),(3,145),(4,3),(5,146)] }
def Xf:TI:={ size:=1,bytes:=8,zero:=[.d .nilFn] }
def Vp:TI:={ size:=1,bytes:=8,zero:=[.d .nilFn] }
def Xh:TI:={ size:=1,bytes:=8,zero:=[.d .nilFn] }
def Ql:TI:={ size:=1,bytes:=8,zero:=[.d .nilFn] }
def OX:TI:={ size:=1,bytes:=8,zero:=[.d .nilFn] }
def P4:TI:={ size:=1,bytes:=8,zero:=[.d .nilFn] }
def MN:TI:={ size:=1,bytes:=8,zero:=[.d (.int .u64 0)] }
def MX:TI:={ size:=1,bytes:=8,zero:=[.d .nilFn] }
def Sv:TI:={ size:=1,bytes:=8,zero:=[.d .nilFn] }
def Vm:TI:={ size:=1,bytes:=8,zero:=[.d .nilFn] }
def MM:TI:={ size:=1,bytes:=8,zero:=[.d .nilFn] }
def LW:TI:={ size:=1,bytes:=8,zero:=[.d .nilFn] }
def OE:TI:={ size:=1,bytes:=8,zero:=[.d .nilFn] }
def Wr:TI:={ size:=1,bytes:=8,zero:=[.d .nilFn] }
def WT:TI:={ size:=1,bytes:=24,zero:=[.nl],sl:=some 169 }
def SX:TI:={ size:=1,bytes:=8,zero:=[.d .nilFn] }
def Rn:TI:={ agg:=true,size:=6,bytes:=112,zero:=[.d (.int .i64 0),.nl,.d (.bool false),.nl,.nl,.nl],flds:=[(0,51),(5,23)] }
def Rf:TI:={ agg:=true,size:=6,bytes:=112,zero:=[.d (.int .i64 0),.nl,.d (.bool false),.nl,.nl,.nl],flds:=[(0,51),(5,23)] }
def SO:TI:={ size:=1,bytes:=8,zero:=[.d .nilFn] }
def SC:TI:={ size:=1,bytes:=8,zero:=[.d .nilFn] }
def Qa:TI:={ size:=1,bytes:=8,zero:=[.d .nilFn] }
def Qi:TI:={ size:=1,bytes:=8,zero:=[.d .nilFn] }
def Uq:TI:={ size:=1,bytes:=8,zero:=[.d .nilFn] }
def Pf:TI:={ size:=1,bytes:=8,zero:=[.d .nilFn] }
def Rh:TI:={ size:=1,bytes:=8,zero:=[.d .nilFn] }
def Uh:TI:={ size:=1,bytes:=8,zero:=[.d .nilFn] }
def Pq:TI:={ agg:=true,size:=1,bytes:=8,zero:=[.d .nilFn],flds:=[(0,94)] }
def OK:TI:={ agg:=true,size:=1,bytes:=8,zero:=[.d .nilFn],flds:=[(0,94)] }
def Wj:TI:={ size:=1,bytes:=8,zero:=[.d .nilFn] }
def UW:TI:={ size:=1,bytes:=8,zero:=[.d .nilFn] }
def U3:TI:={ size:=1,bytes:=8,zero:=[.d .nilFn] }
def Pj:TI:={ size:=1,bytes:=2,zero:=[.d (.int .i16 0)] }
def Xp:TI:={ agg:=true,size:=26,bytes:=52,zero:=List.replicate 26 (.d (.int .i16 0)),arr:=some (26,183),flat:=true }
def Oc:TI:={ agg:=true,size:=26,bytes:=52,zero:=List.replicate 26 (.d (.int .i16 0)),arr:=some (26,183),flat:=true }
def Vn:TI:={ size:=1,bytes:=8,zero:=[.d .nilFn] }
def Uv:TI:={ size:=1,bytes:=8,zero:=[.d .nilFn] }
def Wi:TI:={ size:=1,bytes:=8,zero:=[.d .nilFn] }
def R5:TI:={ size:=1,bytes:=8,zero:=[.d .nilFn] }
def Qj:TI:={ size:=1,bytes:=8,zero:=[.d .nilFn] }
def PT:TI:={ agg:=true,size:=6,bytes:=112,zero:=[.d (.bool false),.nl,.nl,.d (.bool false),.nl,.nl],arr:=some (2,49) }
def VC:TI:={ agg:=true,size:=6,bytes:=112,zero:=[.d (.bool false),.nl,.nl,.d (.bool false),.nl,.nl],arr:=some (2,49) }
def PG:TI:={ size:=1,bytes:=8,zero:=[.d .nilFn] }
def UA:TI:={ size:=1,bytes:=8,zero:=[.d .nilFn] }
def Mv:TI:={ size:=1,bytes:=8,zero:=[.d .nilFn] }
def N5:TI:={ size:=1,bytes:=8,zero:=[.d .nilFn] }
def QL:TI:={ size:=1,bytes:=8,zero:=[.d .nilFn] }
def Ol:TI:={ size:=1,bytes:=8,zero:=[.d .nilFn] }
def S0:TI:={ size:=1,bytes:=8,zero:=[.d .nilFn] }
def SK:TI:={ size:=1,bytes:=8,zero:=[.d .nilFn] }
def MO:TI:={ size:=1,bytes:=8,zero:=[.d .nilFn] }
def Vr:TI:={ size:=1,bytes:=8,zero:=[.d .nilFn] }
def RR:TI:={ size:=1,bytes:=8,zero:=[.d .nilFn] }
def VJ:TI:={ size:=1,bytes:=24,zero:=[.nl],sl:=some 208 }
def Ov:TI:={ size:=1,bytes:=8,zero:=[.d .nilFn] }
def Vu:TI:={ agg:=true,size:=7,bytes:=136,zero:=[.d (.int .i64 0),.nl,.d (.bool false),.nl,.nl,.nl,.nl],flds:=[(0,51),(5,43),(6,23)] }
def LX:TI:={ agg:=true,size:=7,bytes:=136,zero:=[.d (.int .i64 0),.nl,.d (.bool false),.nl,.nl,.nl,.nl],flds:=[(0,51),(5,43),(6,23)] }
def Ut:TI:={ size:=1,bytes:=2,zero:=[.d (.int .u16 0)] }
def U6:TI:={ size:=1,bytes:=8,zero:=[.d .nilFn] }
def SG:TI:={ size:=1,bytes:=8,zero:=[.d .nilFn] }
def Wv:TI:={ agg:=true,size:=4,bytes:=40,zero:=[.d (.int .i64 0),.d (.str ByteArray.empty),.d (.bool false),.d (.int .i64 0)],flds:=[(0,3),(1,9),(2,4),(3,3)] }
def UZ:TI:={ agg:=true,size:=4,bytes:=40,zero:=[.d (.int .i64 0),.d (.str ByteArray.empty),.d (.bool false),.d (.int .i64 0)],flds:=[(0,3),(1,9),(2,4),(3,3)] }
def Q3:TI:={ size:=1,bytes:=8,zero:=[.d .nilFn] }
def WY:TI:={ size:=1,bytes:=8,zero:=[.d .nilFn] }
def RM:TI:={ size:=1,bytes:=8,zero:=[.d .nilFn] }
def VW:TI:={ size:=1,bytes:=8,zero:=[.d .nilFn] }
def Ts:TI:={ size:=1,bytes:=8,zero:=[.d .nilFn] }
def M7:TI:={ size:=1,bytes:=8,zero:=[.d .nilFn] }
def U8:TI:={ size:=1,bytes:=8,zero:=[.d .nilFn] }
def W9:TI:={ size:=1,bytes:=8,zero:=[.d .nilFn] }
def U9:TI:={ size:=1,bytes:=8,zero:=[.d .nilFn] }
def NZ:TI:={ size:=1,bytes:=8,zero:=[.d .nilPtr] }
def Mz:TI:={ agg:=true,size:=2,bytes:=32,zero:=[.d .nilPtr,.nl],flds:=[(0,224),(1,93)] }
def TZ:TI:={ agg:=true,size:=2,bytes:=32,zero:=[.d .nilPtr,.nl],flds:=[(0,224),(1,93)] }
def Nx:TI:={ size:=1,bytes:=16,zero:=[.d (.lit .nilIface)] }
def Rm:TI:={ size:=1,bytes:=16,zero:=[.d (.lit .nilIface)] }
def NT:TI:={ size:=1,bytes:=8,zero:=[.d .nilFn] }
def Mp:TI:={ size:=1,bytes:=8,zero:=[.d .nilFn] }
def MR:TI:={ size:=1,bytes:=8,zero:=[.d .nilFn] }
def OW:TI:={ size:=1,bytes:=8,zero:=[.d .nilFn] }
def R3:TI:={ size:=1,bytes:=8,zero:=[.d .nilFn] }
def Qr:TI:={ size:=1,bytes:=8,zero:=[.d .nilFn] }
def SR:TI:={ size:=1,bytes:=8,zero:=[.d .nilFn] }
def TL:TI:={ size:=1,bytes:=8,zero:=[.d .nilFn] }
def Ub:TI:={ size:=1,bytes:=8,zero:=[.d .nilFn] }
def Xv:TI:={ size:=1,bytes:=8,zero:=[.d .nilFn] }
def R9:TI:={ size:=1,bytes:=8,zero:=[.d .nilFn] }
def Wl:TI:={ size:=1,bytes:=8,zero:=[.d .nilFn] }
def Qd:TI:={ size:=1,bytes:=8,zero:=[.d .nilFn] }
def Ui:TI:={ size:=1,bytes:=8,zero:=[.d .nilFn] }
def ND:TI:={ size:=1,bytes:=8,zero:=[.d .nilFn] }
def Tf:TI:={ size:=1,bytes:=8,zero:=[.d .nilFn] }
def Xe:TI:={ size:=1,bytes:=8,zero:=[.d .nilFn] }
def Ri:TI:={ size:=1,bytes:=24,zero:=[.nl],sl:=some 250 }
def T6:TI:={ size:=1,bytes:=8,zero:=[.d .nilFn] }
def OJ:TI:={ agg:=true,size:=5,bytes:=72,zero:=[.d (.int .i64 0),.d (.int .i64 0),.d (.bool false),.nl,.nl],flds:=[(0,3),(1,3),(2,49)] }
def VS:TI:={ agg:=true,size:=5,bytes:=72,zero:=[.d (.int .i64 0),.d (.int .i64 0),.d (.bool false),.nl,.nl],flds:=[(0,3),(1,3),(2,49)] }
def OV:TI:={ size:=1,bytes:=8,zero:=[.d .nilFn] }
def Sq:TI:={ size:=1,bytes:=8,zero:=[.d .nilFn] }
def Uj:TI:={ size:=1,bytes:=8,zero:=[.d .nilFn] }
def S6:TI:={ size:=1,bytes:=24,zero:=[.nl],sl:=some 43 }
def Sx:TI:={ size:=1,bytes:=8,zero:=[.d .nilFn] }
def VP:TI:={ size:=1,bytes:=8,zero:=[.d .nilFn] }
def NC:TI:={ size:=1,bytes:=8,zero:=[.d .nilFn] }
def NS:TI:={ size:=1,bytes:=8,zero:=[.d .nilFn] }
def T7:TI:={ size:=1,bytes:=24,zero:=[.nl],sl:=some 126 }
def Qt:TI:={ size:=1,bytes:=8,zero:=[.d .nilFn] }
def L7:TI:={ size:=1,bytes:=24,zero:=[.nl],sl:=some 263 }
def Wz:TI:={ size:=1,bytes:=24,zero:=[.nl],sl:=some 314 }
def QC:TI:={ size:=1,bytes:=8,zero:=[.d .nilFn] }
def PX:TI:={ size:=1,bytes:=8,zero:=[.d .nilFn] }
def Qk:TI:={ agg:=true,size:=2,bytes:=16,zero:=[.d (.int .i64 0),.d (.int .u16 0)],flds:=[(0,3),(1,209)],flat:=true }
def Tj:TI:={ agg:=true,size:=2,bytes:=16,zero:=[.d (.int .i64 0),.d (.int .u16 0)],flds:=[(0,3),(1,209)],flat:=true }
def Ny:TI:={ size:=1,bytes:=8,zero:=[.d .nilFn] }
def Uy:TI:={ size:=1,bytes:=8,zero:=[.d .nilFn] }
def Rc:TI:={ agg:=true,size:=3,bytes:=32,zero:=[.d (.int .i64 0),.d (.str ByteArray.empty),.d (.int .i64 0)],flds:=[(0,3),(1,9),(2,3)] }
def OD:TI:={ agg:=true,size:=3,bytes:=32,zero:=[.d (.int .i64 0),.d (.str ByteArray.empty),.d (.int .i64 0)],flds:=[(0,3),(1,9),(2,3)] }
def UU:TI:={ size:=1,bytes:=8,zero:=[.d .nilFn] }
def Oh:TI:={ size:=1,bytes:=8,zero:=[.d .nilFn] }
def SN:TI:={ size:=1,bytes:=8,zero:=[.d .nilFn] }
def OG:TI:={ size:=1,bytes:=8,zero:=[.d .nilFn] }
def R2:TI:={ size:=1,bytes:=8,zero:=[.d .nilFn] }
def P5:TI:={ size:=1,bytes:=8,zero:=[.d .nilFn] }
def MC:TI:={ size:=1,bytes:=24,zero:=[.nl],sl:=some 9 }
def Vl:TI:={ size:=1,bytes:=8,zero:=[.d .nilFn] }
def QJ:TI:={ size:=1,bytes:=8,zero:=[.d .nilFn] }
def RJ:TI:={ size:=1,bytes:=8,zero:=[.d .nilFn] }
def Qh:TI:={ size:=1,bytes:=8,zero:=[.d .nilFn] }
def Qq:TI:={ size:=1,bytes:=8,zero:=[.d .nilFn] }
def PP:TI:={ size:=1,bytes:=8,zero:=[.d .nilFn] }
def PL:TI:={ size:=1,bytes:=8,zero:=[.d .nilFn] }
def RF:TI:={ size:=1,bytes:=8,zero:=[.d .nilPtr] }
def Ru:TI:={ size:=1,bytes:=8,zero:=[.d .nilFn] }
def Q7:TI:={ size:=1,bytes:=8,zero:=[.d .nilFn] }
def M5:TI:={ agg:=true,size:=26,bytes:=208,zero:=List.replicate 26 (.d (.int .i64 0)),arr:=some (26,3),flat:=true }
def Sg:TI:={ agg:=true,size:=2,bytes:=16,zero:=[.d (.int .i64 0),.d (.int .i64 0)],arr:=some (2,3),flat:=true }
def Wy:TI:={ agg:=true,size:=52,bytes:=416,zero:=List.replicate 52 (.d (.int .i64 0)),arr:=some (26,292) }
def Pd:TI:={ agg:=true,size:=78,bytes:=624,zero:=List.replicate 78 (.d (.int .i64 0)),flds:=[(0,291),(26,293)] }
def M6:TI:={ agg:=true,size:=78,bytes:=624,zero:=List.replicate 78 (.d (.int .i64 0)),flds:=[(0,291),(26,293)] }
def O1:TI:={ size:=1,bytes:=8,zero:=[.d .nilFn] }
def UF:TI:={ size:=1,bytes:=8,zero:=[.d .nilFn] }
def V8:TI:={ size:=1,bytes:=8,zero:=[.d .nilFn] }
def VN:TI:={ size:=1,bytes:=8,zero:=[.d .nilFn] }
def MB:TI:={ size:=1,bytes:=8,zero:=[.d .nilFn] }
def UK:TI:={ size:=1,bytes:=8,zero:=[.d .nilFn] }
def WW:TI:={ size:=1,bytes:=8,zero:=[.d (.int .u64 0)] }
def RP:TI:={ size:=1,bytes:=8,zero:=[.d .nilFn] }
def NY:TI:={ size:=1,bytes:=8,zero:=[.d .nilFn] }
def S9:TI:={ size:=1,bytes:=8,zero:=[.d .nilFn] }
def WF:TI:={ agg:=true,size:=4,bytes:=32,zero:=[.d (.int .i64 0),.d (.int .i64 0),.d (.int .i64 0),.d (.int .i64 0)],arr:=some (2,116) }
def UX:TI:={ size:=1,bytes:=8,zero:=[.d .nilPtr] }
def Ta:TI:={ size:=1,bytes:=24,zero:=[.nl],sl:=some 307 }
def TV:TI:={ size:=1,bytes:=8,zero:=[.d .nilFn] }
def MV:TI:={ size:=1,bytes:=8,zero:=[.d .nilFn] }
def RA:TI:={ size:=1,bytes:=8,zero:=[.d .nilFn] }
def Td:TI:={ size:=1,bytes:=8,zero:=[.d .nilFn] }
def Sp:TI:={ agg:=true,size:=2,bytes:=32,zero:=[.d (.int .i64 0),.nl],flds:=[(0,3),(1,43)] }
def VF:TI:={ agg:=true,size:=2,bytes:=32,zero:=[.d (.int .i64 0),.nl],flds:=[(0,3),(1,43)] }
def TR:TI:={ size:=1,bytes:=8,zero:=[.d .nilFn] }
def VD:TI:={ size:=1,bytes:=8,zero:=[.d .nilFn] }
def SE:TI:={ size:=1,bytes:=8,zero:=[.d .nilFn] }
def Nr:TI:={ size:=1,bytes:=8,zero:=[.d .nilFn] }
def Uk:TI:={ size:=1,bytes:=8,zero:=[.d .nilFn] }
def LS:TI:={ size:=1,bytes:=8,zero:=[.d .nilFn] }
def Vi:TI:={ size:=1,bytes:=8,zero:=[.d .nilFn] }
def Uw:TI:={ size:=1,bytes:=8,zero:=[.d .nilFn] }
def Tv:TI:={ size:=1,bytes:=24,zero:=[.nl],sl:=some 328 }
def UT:TI:={ size:=1,bytes:=8,zero:=[.d .nilFn] }
def PN:TI:={ size:=1,bytes:=24,zero:=[.nl],sl:=some 292 }
def Oa:TI:={ size:=1,bytes:=8,zero:=[.d .nilFn] }
def U1:TI:={ size:=1,bytes:=8,zero:=[.d .nilFn] }
def NI:TI:={ size:=1,bytes:=8,zero:=[.d .nilFn] }
def V1:TI:={ size:=1,bytes:=8,zero:=[.d (.int .i64 0)] }
def US:TI:={ size:=1,bytes:=8,zero:=[.d .nilFn] }
def OH:TI:={ size:=1,bytes:=8,zero:=[.d .nilFn] }
def NJ:TI:={ size:=1,bytes:=8,zero:=[.d .nilFn] }
def T0:TI:={ size:=1,bytes:=8,zero:=[.d .nilFn] }
def My:TI:={ size:=1,bytes:=8,zero:=[.d .nilFn] }
def TE:TI:={ size:=1,bytes:=4,zero:=[.d (.int .u32 0)] }
def QH:TI:={ size:=1,bytes:=8,zero:=[.d .nilFn] }
def PH:TI:={ size:=1,bytes:=8,zero:=[.d .nilFn] }
def Nq:TI:={ size:=1,bytes:=8,zero:=[.d .nilFn] }
def Ux:TI:={ size:=1,bytes:=8,zero:=[.d .nilFn] }
def Q6:TI:={ size:=1,bytes:=8,zero:=[.d .nilFn] }
def UV:TI:={ size:=1,bytes:=8,zero:=[.d .nilFn] }
def No:TI:={ size:=1,bytes:=8,zero:=[.d .nilFn] }
def UB:TI:={ size:=1,bytes:=8,zero:=[.d .nilFn] }
def Rb:TI:={ size:=1,bytes:=24,zero:=[.nl],sl:=some 47 }
def WZ:TI:={ agg:=true,size:=24,bytes:=24,zero:=List.replicate 24 (.d (.int .u8 0)),arr:=some (24,5),flat:=true }
def Px:TI:={ size:=1,bytes:=8,zero:=[.d .nilFn] }
def VM:TI:={ size:=1,bytes:=8,zero:=[.d .nilFn] }
def PO:TI:={ size:=1,bytes:=8,zero:=[.d .nilFn] }
def Ml:TI:={ size:=1,bytes:=8,zero:=[.d .nilPtr] }
def Vz:TI:={ size:=1,bytes:=8,zero:=[.d .nilFn] }
def Tb:TI:={ size:=1,bytes:=8,zero:=[.d .nilFn] }
def WR:TI:={ size:=1,bytes:=8,zero:=[.d .nilFn] }
def MS:TI:={ size:=1,bytes:=8,zero:=[.d .nilFn] }
def V2:TI:={ size:=1,bytes:=8,zero:=[.d (.int .u64 0)] }
def M9:TI:={ size:=1,bytes:=8,zero:=[.d .nilFn] }
def QB:TI:={ size:=1,bytes:=8,zero:=[.d .nilFn] }
def Ms:TI:={ size:=1,bytes:=8,zero:=[.d .nilFn] }
def T1:TI:={ size:=1,bytes:=8,zero:=[.d .nilFn] }
def VG:TI:={ size:=1,bytes:=8,zero:=[.d .nilFn] }
def Ve:TI:={ size:=1,bytes:=8,zero:=[.d .nilFn] }
def Xj:TI:={ size:=1,bytes:=8,zero:=[.d .nilFn] }
def Um:TI:={ size:=1,bytes:=8,zero:=[.d .nilFn] }
def LV:TI:={ size:=1,bytes:=8,zero:=[.d .nilFn] }
def OQ:TI:={ size:=1,bytes:=8,zero:=[.d .nilFn] }
def Nl:TI:={ agg:=true,size:=4,bytes:=32,zero:=[.d (.int .i64 0),.d (.int .i64 0),.d (.int .i64 0),.d (.int .i64 0)],arr:=some (4,3),flat:=true }
def Vj:TI:={ agg:=true,size:=32,bytes:=256,zero:=List.replicate 32 (.d (.int .i64 0)),arr:=some (8,370) }
def TQ:TI:={ size:=1,bytes:=8,zero:=[.d .nilFn] }
def ON:TI:={ agg:=true,size:=20,bytes:=160,zero:=List.replicate 20 (.d (.int .u64 0)),arr:=some (20,155),flat:=true }
def T4:TI:={ agg:=true,size:=65,bytes:=65,zero:=List.replicate 65 (.d (.int .u8 0)),arr:=some (65,5),flat:=true }
def WA:TI:={ size:=1,bytes:=8,zero:=[.d .nilPtr] }
def Qs:TI:={ size:=1,bytes:=8,zero:=[.d .nilFn] }
def OO:TI:={ size:=1,bytes:=8,zero:=[.d .nilPtr] }
def NH:TI:={ size:=1,bytes:=8,zero:=[.d .nilFn] }
def Nb:TI:={ size:=1,bytes:=8,zero:=[.d .nilFn] }
def PR:TI:={ size:=1,bytes:=8,zero:=[.d .nilFn] }
def QW:TI:={ size:=1,bytes:=8,zero:=[.d .nilFn] }
def MZ:TI:={ size:=1,bytes:=8,zero:=[.d .nilFn] }
def WO:TI:={ size:=1,bytes:=8,zero:=[.d .nilFn] }
def NP:TI:={ size:=1,bytes:=8,zero:=[.d .nilFn] }
def Sh:TI:={ size:=1,bytes:=8,zero:=[.d .nilFn] }
def Qn:TI:={ size:=1,bytes:=8,zero:=[.d .nilFn] }
def R8:TI:={ agg:=true,size:=32,bytes:=32,zero:=List.replicate 32 (.d (.int .u8 0)),arr:=some (32,5),flat:=true }
def Vk:TI:={ agg:=true,size:=64,bytes:=64,zero:=List.replicate 64 (.d (.int .u8 0)),arr:=some (64,5),flat:=true }
def PY:TI:={ size:=1,bytes:=8,zero:=[.d .nilFn] }
def PS:TI:={ size:=1,bytes:=8,zero:=[.d .nilFn] }
def QK:TI:={ size:=1,bytes:=8,zero:=[.d .nilFn] }
def Uo:TI:={ agg:=true,size:=4,bytes:=40,zero:=[.d .nilPtr,.d .nilPtr,.d .nilPtr,.d (.str ByteArray.empty)],flds:=[(0,17),(1,17),(2,17),(3,9)] }
def Vg:TI:={ agg:=true,size:=4,bytes:=40,zero:=[.d .nilPtr,.d .nilPtr,.d .nilPtr,.d (.str ByteArray.empty)],flds:=[(0,17),(1,17),(2,17),(3,9)] }
def Tx:TI:={ agg:=true,size:=0,bytes:=0,zero:=[],arr:=some (0,16) }
def Xd:TI:={ agg:=true,size:=0,bytes:=0,zero:=[],flds:=[(0,395)] }
def NA:TI:={ agg:=true,size:=0,bytes:=0,zero:=[],flds:=[(0,395)] }
def Oj:TI:={ size:=1,bytes:=1,zero:=[.d (.int .u8 0)] }
def PF:TI:={ size:=1,bytes:=1,zero:=[.d (.int .u8 0)] }
def Vt:TI:={ size:=1,bytes:=8,zero:=[.d .nilFn] }
def RO:TI:={ size:=1,bytes:=4,zero:=[.d (.int .i32 0)] }
def UP:TI:={ size:=1,bytes:=4,zero:=[.d (.int .i32 0)] }
def RD:TI:={ agg:=true,size:=11,bytes:=48,zero:=[.d (.int .u64 0),.d (.int .u64 0),.d (.int .u32 0),.d (.int .u8 0),.d (.int .u8 0),.d (.int .u8 0),.d (.int .u8 0),.d .nilFn,.d .nilPtr,.d (.int .i32 0),.d (.int .i32 0)],flds:=[(0,12),(1,12),(2,339),(3,398),(4,5),(5,5),(6,399),(7,400),(8,288),(9,401),(10,402)] }
def PM:TI:={ agg:=true,size:=11,bytes:=48,zero:=[.d (.int .u64 0),.d (.int .u64 0),.d (.int .u32 0),.d (.int .u8 0),.d (.int .u8 0),.d (.int .u8 0),.d (.int .u8 0),.d .nilFn,.d .nilPtr,.d (.int .i32 0),.d (.int .i32 0)],flds:=[(0,12),(1,12),(2,339),(3,398),(4,5),(5,5),(6,399),(7,400),(8,288),(9,401),(10,402)] }
def VR:TI:={ size:=1,bytes:=8,zero:=[.d .nilFn] }
def H8:List (Option TI):=[none,some Pg,some Ue,some Xu,some Tm,some V6,some Sd,some Pb,some RQ,some WI,some M3,some Mj,some SD,some N0,some P3,some Wm,some Ns,some TH,some O3,some Q4,some RL,some LZ,some VE,some We,some NQ,some TK,some Tg,some RH,some Nf,some Ox,some Qb,some QM,some OB,some NX,some WS,some LR,some Qo,some Wf,some PC,some SF,none,some SL,some Nj,some Qw,some On,some MD,some Po,some Xs,some VO,some Tw,some Un,some Tn,some PA,some Up,some Qy,some Pe,some Mr,none,some OM,some Pt,some Np,some N3,some RS,some Nm,some P7,some O6,some MJ,some Ry,some WC,some Mn,some TX,none,some Nv,some Ug,some Vv,some Ni,some LY,some Pi,some UC,none,some Tu,some PK,some O5,some PE,some Q1,some Mx,some MA,some OA,some Xc,some TW,some Wa,some P6,some SB,some VX,some Xg,some Mq,some RE,none,some Mu,some MU,some L8,some L6,some QE,some Wo,some Rs,some WN,some MI,some Ou,some QA,some Sw,some L5,some P8,some QY,some Xr,some Tr,some VT,some NV,some Od,some Ws,some Mi,some PU,some Tz,some Vw,some OL,some QQ,some Qe,some Se,some OT,some RW,some RK,some TB,some Oe,some Wd,some Tp,none,some OF,some Py,some Rj,some QP,some WK,some MG,some Sr,some Nu,some Me,some TS,some Xb,some OY,some Pv,some Mb,some Xf,some Vp,some Xh,some Ql,some OX,some P4,some MN,some MX,some Sv,some Vm,some MM,some LW,none,none,none,some OE,some Wr,some WT,some SX,some Rn,some Rf,some SO,some SC,some Qa,some Qi,some Uq,some Pf,some Rh,some Uh,some Pq,some OK,some Wj,some UW,some U3,some Pj,some Xp,some Oc,some Vn,some Uv,some Wi,some R5,none,some Qj,some PT,some VC,some PG,some UA,some Mv,some N5,some QL,some Ol,some S0,some SK,some MO,some Vr,some RR,some VJ,some Ov,some Vu,some LX,some Ut,some U6,none,some SG,some Wv,some UZ,some Q3,some WY,some RM,some VW,some Ts,some M7,some U8,some W9,some U9,some NZ,some Mz,some TZ,some Nx,some Rm,none,some NT,some Mp,some MR,some OW,some R3,some Qr,some SR,some TL,some Ub,some Xv,some R9,some Wl,some Qd,some Ui,some ND,some Tf,some Xe,some Ri,some T6,some OJ,some VS,some OV,some Sq,some Uj,some S6,some Sx,none,some VP,some NC,some NS,some T7,some Qt,some L7,some Wz,some QC,some PX,some Qk,some Tj,none,some Ny,some Uy,some Rc,some OD,some UU,some Oh,some SN,some OG,none,some R2,some P5,some MC,some Vl,some QJ,some RJ,some Qh,some Qq,some PP,some PL,some RF,some Ru,some Q7,some M5,some Sg,some Wy,some Pd,some M6,some O1,some UF,some V8,some VN,some MB,some UK,some WW,some RP,some NY,some S9,some WF,some UX,some Ta,some TV,some MV,some RA,some Td,some Sp,some VF,none,some TR,some VD,some SE,some Nr,none,some Uk,some LS,some Vi,none,some Uw,some Tv,some UT,some PN,some Oa,some U1,some NI,some V1,none,some US,some OH,some NJ,some T0,some My,some TE,some QH,some PH,some Nq,some Ux,some Q6,some UV,some No,some UB,some Rb,some WZ,some Px,none,some VM,some PO,some Ml,some Vz,some Tb,some WR,some MS,some V2,some M9,some QB,some Ms,some T1,some VG,some Ve,some Xj,some Um,some LV,some OQ,some Nl,some Vj,some TQ,some ON,some T4,some WA,some Qs,some OO,none,some NH,some Nb,some PR,some QW,some MZ,some WO,some NP,some Sh,some Qn,some R8,some Vk,some PY,some PS,some QK,some Uo,some Vg,some Tx,some Xd,some NA,some Oj,some PF,some Vt,some RO,some UP,some RD,some PM,some VR]
def tb:Ao:=fun t=>(H8[t]?).join
def GH(P:Program):Nat→List (Option TI)→Bool
 |_,[]=>true
 |k,o::r=>(match o with|some i=>Gm P k i|none=>true)&&GH P (k+1) r
theorem TF{P:Program}: ∀(l:List (Option TI)) (k:Nat),GH P k l=true→ ∀t i,l[t]? =some (some i)→Gm P (k+t) i=true
 |[],_,_,_,_,h=>by simp at h
 |o::r,k,hb,0,i,h=>by
  simp only[List.getElem?_cons_zero,Option.some.injEq]at h;subst h;unfold GH at hb
  simpa using (Av _ _ ▸ hb).1
 |o::r,k,hb,t+1,i,h=>by
  unfold GH at hb;have:=TF r (k+1) (by simpa using (Av _ _ ▸ hb).2) t i (by simpa using h)
  rwa [show k+1+t=k+(t+1) by omega]at this
theorem joN:GH Tryz.prog 0 H8=true:=by kernel_rfl
theorem Ai:Az Tryz.prog tb:=fun t i h=>by
 have:=TF H8 0 joN t i (by unfold tb at h;cases hx:H8[t]? <;>simp[hx]at h;rw[h])
 rwa [Nat.zero_add]at this
theorem mixed:Tryz.prog.follows .mixedOrders=true:=by kernel_rfl
@[simp]theorem tb_1:tb 1=some { size:=1,bytes:=8,zero:=[.d .nilFn] }:=rfl
@[simp]theorem tb_2:tb 2=some { size:=1,bytes:=8,zero:=[.d (.int .i64 0)] }:=rfl
@[simp]theorem tb_3:tb 3=some { size:=1,bytes:=8,zero:=[.d (.int .i64 0)] }:=rfl
@[simp]theorem tb_4:tb 4=some { size:=1,bytes:=1,zero:=[.d (.bool false)] }:=rfl
@[simp]theorem tb_5:tb 5=some { size:=1,bytes:=1,zero:=[.d (.int .u8 0)] }:=rfl
@[simp]theorem tb_6:tb 6=some { size:=1,bytes:=1,zero:=[.d (.int .u8 0)] }:=rfl
@[simp]theorem tb_7:tb 7=some { agg:=true,size:=4,bytes:=24,zero:=[.d (.int .i64 0),.d (.int .i64 0),.d (.bool false),.d (.int .u8 0)],flds:=[(0,2),(1,3),(2,4),(3,6)],flat:=true }:=rfl
@[simp]theorem tb_8:tb 8=some { agg:=true,size:=4,bytes:=24,zero:=[.d (.int .i64 0),.d (.int .i64 0),.d (.bool false),.d (.int .u8 0)],flds:=[(0,2),(1,3),(2,4),(3,6)],flat:=true }:=rfl
@[simp]theorem tb_9:tb 9=some { size:=1,bytes:=16,zero:=[.d (.str ByteArray.empty)] }:=rfl
@[simp]theorem tb_10:tb 10=some { size:=1,bytes:=16,zero:=[.d (.str ByteArray.empty)] }:=rfl
@[simp]theorem tb_11:tb 11=some { size:=1,bytes:=16,zero:=[.d (.str ByteArray.empty)] }:=rfl
@[simp]theorem tb_12:tb 12=some { size:=1,bytes:=8,zero:=[.d (.int .u64 0)] }:=rfl
@[simp]theorem tb_13:tb 13=some { agg:=true,size:=2,bytes:=24,zero:=[.d (.str ByteArray.empty),.d (.int .u64 0)],flds:=[(0,9),(1,12)] }:=rfl
@[simp]theorem tb_14:tb 14=some { agg:=true,size:=2,bytes:=24,zero:=[.d (.str ByteArray.empty),.d (.int .u64 0)],flds:=[(0,9),(1,12)] }:=rfl
@[simp]theorem tb_15:tb 15=some { size:=1,bytes:=8,zero:=[.d .nilPtr] }:=rfl
@[simp]theorem tb_16:tb 16=some { size:=1,bytes:=8,zero:=[.d .nilPtr] }:=rfl
@[simp]theorem tb_17:tb 17=some { size:=1,bytes:=8,zero:=[.d .nilPtr] }:=rfl
@[simp]theorem tb_18:tb 18=some { agg:=true,size:=1,bytes:=8,zero:=[.d .nilPtr],flds:=[(0,17)] }:=rfl
@[simp]theorem tb_19:tb 19=some { agg:=true,size:=1,bytes:=8,zero:=[.d .nilPtr],flds:=[(0,17)] }:=rfl
@[simp]theorem tb_20:tb 20=some { size:=1,bytes:=16,zero:=[.d (.lit .nilIface)] }:=rfl
@[simp]theorem tb_21:tb 21=some { size:=1,bytes:=4,zero:=[.d (.int .i32 0)] }:=rfl
@[simp]theorem tb_22:tb 22=some { size:=1,bytes:=24,zero:=[.nl],sl:=some 53 }:=rfl
@[simp]theorem tb_23:tb 23=some { size:=1,bytes:=24,zero:=[.nl],sl:=some 55 }:=rfl
@[simp]theorem tb_24:tb 24=some { agg:=true,size:=2,bytes:=48,zero:=[.nl,.nl],flds:=[(0,22),(1,23)] }:=rfl
@[simp]theorem tb_25:tb 25=some { agg:=true,size:=2,bytes:=48,zero:=[.nl,.nl],flds:=[(0,22),(1,23)] }:=rfl
@[simp]theorem tb_26:tb 26=some { size:=1,bytes:=8,zero:=[.d .nilFn] }:=rfl
@[simp]theorem tb_27:tb 27=some { size:=1,bytes:=8,zero:=[.d .nilFn] }:=rfl
@[simp]theorem tb_28:tb 28=some { size:=1,bytes:=8,zero:=[.d (.int .i64 0)] }:=rfl
@[simp]theorem tb_29:tb 29=some { size:=1,bytes:=8,zero:=[.d .nilFn] }:=rfl
@[simp]theorem tb_30:tb 30=some { size:=1,bytes:=8,zero:=[.d .nilFn] }:=rfl
@[simp]theorem tb_31:tb 31=some { size:=1,bytes:=24,zero:=[.nl],sl:=some 91 }:=rfl
@[simp]theorem tb_32:tb 32=some { size:=1,bytes:=24,zero:=[.nl],sl:=some 51 }:=rfl
@[simp]theorem tb_33:tb 33=some { agg:=true,size:=2,bytes:=48,zero:=[.nl,.nl],flds:=[(0,31),(1,32)] }:=rfl
@[simp]theorem tb_34:tb 34=some { agg:=true,size:=2,bytes:=48,zero:=[.nl,.nl],flds:=[(0,31),(1,32)] }:=rfl
@[simp]theorem tb_35:tb 35=some { size:=1,bytes:=8,zero:=[.d .nilFn] }:=rfl
@[simp]theorem tb_36:tb 36=some { size:=1,bytes:=8,zero:=[.d .nilFn] }:=rfl
@[simp]theorem tb_37:tb 37=some { size:=1,bytes:=8,zero:=[.d .nilFn] }:=rfl
@[simp]theorem tb_38:tb 38=some { size:=1,bytes:=24,zero:=[.nl],sl:=some 85 }:=rfl
@[simp]theorem tb_39:tb 39=some { size:=1,bytes:=8,zero:=[.d .nilFn] }:=rfl
@[simp]theorem tb_41:tb 41=some { size:=1,bytes:=8,zero:=[.d .nilFn] }:=rfl
@[simp]theorem tb_42:tb 42=some { size:=1,bytes:=8,zero:=[.d .nilFn] }:=rfl
@[simp]theorem tb_43:tb 43=some { size:=1,bytes:=24,zero:=[.nl],sl:=some 3 }:=rfl
@[simp]theorem tb_44:tb 44=some { size:=1,bytes:=24,zero:=[.nl],sl:=some 209 }:=rfl
@[simp]theorem tb_45:tb 45=some { size:=1,bytes:=24,zero:=[.nl],sl:=some 209 }:=rfl
@[simp]theorem tb_46:tb 46=some { agg:=true,size:=2,bytes:=32,zero:=[.d (.bool false),.nl],flds:=[(0,4),(1,45)] }:=rfl
@[simp]theorem tb_47:tb 47=some { agg:=true,size:=2,bytes:=32,zero:=[.d (.bool false),.nl],flds:=[(0,4),(1,45)] }:=rfl
@[simp]theorem tb_48:tb 48=some { agg:=true,size:=3,bytes:=56,zero:=[.d (.bool false),.nl,.nl],flds:=[(0,47),(2,45)] }:=rfl
@[simp]theorem tb_49:tb 49=some { agg:=true,size:=3,bytes:=56,zero:=[.d (.bool false),.nl,.nl],flds:=[(0,47),(2,45)] }:=rfl
@[simp]theorem tb_50:tb 50=some { agg:=true,size:=5,bytes:=88,zero:=[.d (.int .i64 0),.nl,.d (.bool false),.nl,.nl],flds:=[(0,3),(1,43),(2,49)] }:=rfl
@[simp]theorem tb_51:tb 51=some { agg:=true,size:=5,bytes:=88,zero:=[.d (.int .i64 0),.nl,.d (.bool false),.nl,.nl],flds:=[(0,3),(1,43),(2,49)] }:=rfl
@[simp]theorem tb_52:tb 52=some { agg:=true,size:=7,bytes:=120,zero:=[.d (.int .i64 0),.nl,.d (.bool false),.nl,.nl,.d (.int .i64 0),.nl],flds:=[(0,51),(5,3),(6,43)] }:=rfl
@[simp]theorem tb_53:tb 53=some { agg:=true,size:=7,bytes:=120,zero:=[.d (.int .i64 0),.nl,.d (.bool false),.nl,.nl,.d (.int .i64 0),.nl],flds:=[(0,51),(5,3),(6,43)] }:=rfl
@[simp]theorem tb_54:tb 54=some { agg:=true,size:=2,bytes:=32,zero:=[.d (.int .i64 0),.nl],flds:=[(0,3),(1,43)] }:=rfl
@[simp]theorem tb_55:tb 55=some { agg:=true,size:=2,bytes:=32,zero:=[.d (.int .i64 0),.nl],flds:=[(0,3),(1,43)] }:=rfl
@[simp]theorem tb_56:tb 56=some { size:=1,bytes:=8,zero:=[.d .nilFn] }:=rfl
@[simp]theorem tb_58:tb 58=some { size:=1,bytes:=8,zero:=[.d .nilFn] }:=rfl
@[simp]theorem tb_59:tb 59=some { size:=1,bytes:=24,zero:=[.nl],sl:=some 62 }:=rfl
@[simp]theorem tb_60:tb 60=some { size:=1,bytes:=8,zero:=[.d .nilFn] }:=rfl
@[simp]theorem tb_61:tb 61=some { size:=1,bytes:=16,zero:=[.d (.lit .nilIface)] }:=rfl
@[simp]theorem tb_62:tb 62=some { size:=1,bytes:=16,zero:=[.d (.lit .nilIface)] }:=rfl
@[simp]theorem tb_63:tb 63=some { agg:=true,size:=8,bytes:=128,zero:=[.d (.int .i64 0),.nl,.d (.bool false),.nl,.nl,.d (.int .i64 0),.nl,.d (.int .i64 0)],flds:=[(0,53),(7,3)] }:=rfl
@[simp]theorem tb_64:tb 64=some { agg:=true,size:=8,bytes:=128,zero:=[.d (.int .i64 0),.nl,.d (.bool false),.nl,.nl,.d (.int .i64 0),.nl,.d (.int .i64 0)],flds:=[(0,53),(7,3)] }:=rfl
@[simp]theorem tb_65:tb 65=some { size:=1,bytes:=8,zero:=[.d .nilFn] }:=rfl
@[simp]theorem tb_66:tb 66=some { agg:=true,size:=3,bytes:=40,zero:=[.d (.int .i64 0),.nl,.d (.int .i64 0)],flds:=[(0,55),(2,3)] }:=rfl
@[simp]theorem tb_67:tb 67=some { agg:=true,size:=3,bytes:=40,zero:=[.d (.int .i64 0),.nl,.d (.int .i64 0)],flds:=[(0,55),(2,3)] }:=rfl
@[simp]theorem tb_68:tb 68=some { size:=1,bytes:=8,zero:=[.d .nilFn] }:=rfl
@[simp]theorem tb_69:tb 69=some { size:=1,bytes:=8,zero:=[.d .nilFn] }:=rfl
@[simp]theorem tb_70:tb 70=some { size:=1,bytes:=8,zero:=[.d .nilFn] }:=rfl
@[simp]theorem tb_72:tb 72=some { size:=1,bytes:=8,zero:=[.d .nilFn] }:=rfl
@[simp]theorem tb_73:tb 73=some { size:=1,bytes:=8,zero:=[.d .nilFn] }:=rfl
@[simp]theorem tb_74:tb 74=some { size:=1,bytes:=8,zero:=[.d .nilFn] }:=rfl
@[simp]theorem tb_75:tb 75=some { size:=1,bytes:=8,zero:=[.d .nilFn] }:=rfl
@[simp]theorem tb_76:tb 76=some { size:=1,bytes:=8,zero:=[.d .nilFn] }:=rfl
@[simp]theorem tb_77:tb 77=some { size:=1,bytes:=8,zero:=[.d .nilFn] }:=rfl
@[simp]theorem tb_78:tb 78=some { size:=1,bytes:=8,zero:=[.d .nilFn] }:=rfl
@[simp]theorem tb_80:tb 80=some { size:=1,bytes:=8,zero:=[.d .nilFn] }:=rfl
@[simp]theorem tb_81:tb 81=some { size:=1,bytes:=8,zero:=[.d .nilFn] }:=rfl
@[simp]theorem tb_82:tb 82=some { size:=1,bytes:=24,zero:=[.nl],sl:=some 49 }:=rfl
@[simp]theorem tb_83:tb 83=some { size:=1,bytes:=8,zero:=[.d .nilFn] }:=rfl
@[simp]theorem tb_84:tb 84=some { agg:=true,size:=6,bytes:=112,zero:=[.d (.bool false),.nl,.nl,.d (.bool false),.nl,.nl],flds:=[(0,49),(3,49)] }:=rfl
@[simp]theorem tb_85:tb 85=some { agg:=true,size:=6,bytes:=112,zero:=[.d (.bool false),.nl,.nl,.d (.bool false),.nl,.nl],flds:=[(0,49),(3,49)] }:=rfl
@[simp]theorem tb_86:tb 86=some { size:=1,bytes:=8,zero:=[.d .nilFn] }:=rfl
@[simp]theorem tb_87:tb 87=some { agg:=true,size:=3,bytes:=40,zero:=[.d (.int .i64 0),.nl,.d (.int .i64 0)],flds:=[(0,3),(1,43),(2,3)] }:=rfl
@[simp]theorem tb_88:tb 88=some { agg:=true,size:=3,bytes:=40,zero:=[.d (.int .i64 0),.nl,.d (.int .i64 0)],flds:=[(0,3),(1,43),(2,3)] }:=rfl
@[simp]theorem tb_89:tb 89=some { size:=1,bytes:=8,zero:=[.d .nilFn] }:=rfl
@[simp]theorem tb_90:tb 90=some { agg:=true,size:=6,bytes:=104,zero:=[.d (.int .i64 0),.d (.str ByteArray.empty),.nl,.d (.bool false),.nl,.nl],flds:=[(0,3),(1,9),(2,43),(3,49)] }:=rfl
@[simp]theorem tb_91:tb 91=some { agg:=true,size:=6,bytes:=104,zero:=[.d (.int .i64 0),.d (.str ByteArray.empty),.nl,.d (.bool false),.nl,.nl],flds:=[(0,3),(1,9),(2,43),(3,49)] }:=rfl
@[simp]theorem tb_92:tb 92=some { size:=1,bytes:=8,zero:=[.d .nilFn] }:=rfl
@[simp]theorem tb_93:tb 93=some { size:=1,bytes:=24,zero:=[.nl],sl:=some 5 }:=rfl
@[simp]theorem tb_94:tb 94=some { size:=1,bytes:=8,zero:=[.d .nilFn] }:=rfl
@[simp]theorem tb_95:tb 95=some { size:=1,bytes:=8,zero:=[.d .nilFn] }:=rfl
@[simp]theorem tb_96:tb 96=some { size:=1,bytes:=8,zero:=[.d .nilFn] }:=rfl
@[simp]theorem tb_98:tb 98=some { size:=1,bytes:=8,zero:=[.d .nilFn] }:=rfl
@[simp]theorem tb_99:tb 99=some { size:=1,bytes:=8,zero:=[.d .nilFn] }:=rfl
@[simp]theorem tb_100:tb 100=some { size:=1,bytes:=24,zero:=[.nl],sl:=some 214 }:=rfl
@[simp]theorem tb_101:tb 101=some { agg:=true,size:=4,bytes:=88,zero:=[.d (.str ByteArray.empty),.nl,.nl,.nl],flds:=[(0,9),(1,100),(2,100),(3,100)] }:=rfl
@[simp]theorem tb_102:tb 102=some { agg:=true,size:=4,bytes:=88,zero:=[.d (.str ByteArray.empty),.nl,.nl,.nl],flds:=[(0,9),(1,100),(2,100),(3,100)] }:=rfl
@[simp]theorem tb_103:tb 103=some { size:=1,bytes:=8,zero:=[.d .nilFn] }:=rfl
@[simp]theorem tb_104:tb 104=some { size:=1,bytes:=8,zero:=[.d .nilFn] }:=rfl
@[simp]theorem tb_105:tb 105=some { size:=1,bytes:=8,zero:=[.d .nilFn] }:=rfl
@[simp]theorem tb_106:tb 106=some { size:=1,bytes:=8,zero:=[.d .nilFn] }:=rfl
@[simp]theorem tb_107:tb 107=some { size:=1,bytes:=8,zero:=[.d .nilFn] }:=rfl
@[simp]theorem tb_108:tb 108=some { size:=1,bytes:=8,zero:=[.d .nilFn] }:=rfl
@[simp]theorem tb_109:tb 109=some { size:=1,bytes:=8,zero:=[.d .nilFn] }:=rfl
@[simp]theorem tb_110:tb 110=some { size:=1,bytes:=8,zero:=[.d .nilFn] }:=rfl
@[simp]theorem tb_111:tb 111=some { size:=1,bytes:=8,zero:=[.d .nilFn] }:=rfl
@[simp]theorem tb_112:tb 112=some { size:=1,bytes:=8,zero:=[.d .nilFn] }:=rfl
@[simp]theorem tb_113:tb 113=some { size:=1,bytes:=24,zero:=[.nl],sl:=some 116 }:=rfl
@[simp]theorem tb_114:tb 114=some { size:=1,bytes:=8,zero:=[.d .nilFn] }:=rfl
@[simp]theorem tb_115:tb 115=some { agg:=true,size:=2,bytes:=16,zero:=[.d (.int .i64 0),.d (.int .i64 0)],arr:=some (2,3),flat:=true }:=rfl
@[simp]theorem tb_116:tb 116=some { agg:=true,size:=2,bytes:=16,zero:=[.d (.int .i64 0),.d (.int .i64 0)],arr:=some (2,3),flat:=true }:=rfl
@[simp]theorem tb_117:tb 117=some { size:=1,bytes:=8,zero:=[.d .nilFn] }:=rfl
@[simp]theorem tb_118:tb 118=some { size:=1,bytes:=8,zero:=[.d .nilFn] }:=rfl
@[simp]theorem tb_119:tb 119=some { size:=1,bytes:=24,zero:=[.nl],sl:=some 122 }:=rfl
@[simp]theorem tb_120:tb 120=some { size:=1,bytes:=8,zero:=[.d .nilFn] }:=rfl
@[simp]theorem tb_121:tb 121=some { agg:=true,size:=6,bytes:=112,zero:=[.d (.int .i64 0),.nl,.d (.bool false),.nl,.nl,.nl],flds:=[(0,51),(5,23)] }:=rfl
@[simp]theorem tb_122:tb 122=some { agg:=true,size:=6,bytes:=112,zero:=[.d (.int .i64 0),.nl,.d (.bool false),.nl,.nl,.nl],flds:=[(0,51),(5,23)] }:=rfl
@[simp]theorem tb_123:tb 123=some { size:=1,bytes:=8,zero:=[.d .nilFn] }:=rfl
@[simp]theorem tb_124:tb 124=some { size:=1,bytes:=8,zero:=[.d .nilFn] }:=rfl
@[simp]theorem tb_125:tb 125=some { agg:=true,size:=2,bytes:=16,zero:=[.d (.int .i64 0),.d (.int .i64 0)],flds:=[(0,3),(1,3)],flat:=true }:=rfl
@[simp]theorem tb_126:tb 126=some { agg:=true,size:=2,bytes:=16,zero:=[.d (.int .i64 0),.d (.int .i64 0)],flds:=[(0,3),(1,3)],flat:=true }:=rfl
@[simp]theorem tb_127:tb 127=some { size:=1,bytes:=8,zero:=[.d .nilFn] }:=rfl
@[simp]theorem tb_128:tb 128=some { size:=1,bytes:=8,zero:=[.d .nilFn] }:=rfl
@[simp]theorem tb_129:tb 129=some { size:=1,bytes:=8,zero:=[.d .nilFn] }:=rfl
@[simp]theorem tb_130:tb 130=some { size:=1,bytes:=8,zero:=[.d .nilFn] }:=rfl
@[simp]theorem tb_131:tb 131=some { size:=1,bytes:=8,zero:=[.d .nilFn] }:=rfl
@[simp]theorem tb_132:tb 132=some { size:=1,bytes:=8,zero:=[.d .nilFn] }:=rfl
@[simp]theorem tb_133:tb 133=some { size:=1,bytes:=8,zero:=[.d .nilFn] }:=rfl
@[simp]theorem tb_135:tb 135=some { size:=1,bytes:=8,zero:=[.d .nilFn] }:=rfl
@[simp]theorem tb_136:tb 136=some { size:=1,bytes:=8,zero:=[.d .nilFn] }:=rfl
@[simp]theorem tb_137:tb 137=some { size:=1,bytes:=8,zero:=[.d .nilFn] }:=rfl
@[simp]theorem tb_138:tb 138=some { size:=1,bytes:=8,zero:=[.d .nilFn] }:=rfl
@[simp]theorem tb_139:tb 139=some { size:=1,bytes:=8,zero:=[.d .nilFn] }:=rfl
@[simp]theorem tb_140:tb 140=some { size:=1,bytes:=24,zero:=[.nl],sl:=some 143 }:=rfl
@[simp]theorem tb_141:tb 141=some { size:=1,bytes:=8,zero:=[.d .nilFn] }:=rfl
@[simp]theorem tb_142:tb 142=some { agg:=true,size:=8,bytes:=144,zero:=[.d (.int .i64 0),.nl,.d (.bool false),.nl,.nl,.d (.int .i64 0),.nl,.nl],flds:=[(0,53),(7,23)] }:=rfl
@[simp]theorem tb_143:tb 143=some { agg:=true,size:=8,bytes:=144,zero:=[.d (.int .i64 0),.nl,.d (.bool false),.nl,.nl,.d (.int .i64 0),.nl,.nl],flds:=[(0,53),(7,23)] }:=rfl
@[simp]theorem tb_144:tb 144=some { size:=1,bytes:=8,zero:=[.d .nilFn] }:=rfl
@[simp]theorem tb_145:tb 145=some { size:=1,bytes:=24,zero:=[.nl],sl:=some 272 }:=rfl
@[simp]theorem tb_146:tb 146=some { size:=1,bytes:=8,zero:=[.d .nilFn] }:=rfl
@[simp]theorem tb_147:tb 147=some { agg:=true,size:=6,bytes:=104,zero:=[.d (.str ByteArray.empty),.nl,.nl,.nl,.d (.int .i64 0),.d .nilFn],flds:=[(0,9),(1,145),(2,145),(3,145),(4,3),(5,146)] }:=rfl
@[simp]theorem tb_148:tb 148=some { agg:=true,size:=6,bytes:=104,zero:=[.d (.str ByteArray.empty),.nl,.nl,.nl,.d (.int .i64 0),.d .nilFn],flds:=[(0,9),(1,145),(2,145),(3,145),(4,3),(5,146)] }:=rfl
@[simp]theorem tb_149:tb 149=some { size:=1,bytes:=8,zero:=[.d .nilFn] }:=rfl
@[simp]theorem tb_150:tb 150=some { size:=1,bytes:=8,zero:=[.d .nilFn] }:=rfl
@[simp]theorem tb_151:tb 151=some { size:=1,bytes:=8,zero:=[.d .nilFn] }:=rfl
@[simp]theorem tb_152:tb 152=some { size:=1,bytes:=8,zero:=[.d .nilFn] }:=rfl
@[simp]theorem tb_153:tb 153=some { size:=1,bytes:=8,zero:=[.d .nilFn] }:=rfl
@[simp]theorem tb_154:tb 154=some { size:=1,bytes:=8,zero:=[.d .nilFn] }:=rfl
@[simp]theorem tb_155:tb 155=some { size:=1,bytes:=8,zero:=[.d (.int .u64 0)] }:=rfl
@[simp]theorem tb_156:tb 156=some { size:=1,bytes:=8,zero:=[.d .nilFn] }:=rfl
@[simp]theorem tb_157:tb 157=some { size:=1,bytes:=8,zero:=[.d .nilFn] }:=rfl
@[simp]theorem tb_158:tb 158=some { size:=1,bytes:=8,zero:=[.d .nilFn] }:=rfl
@[simp]theorem tb_159:tb 159=some { size:=1,bytes:=8,zero:=[.d .nilFn] }:=rfl
@[simp]theorem tb_160:tb 160=some { size:=1,bytes:=8,zero:=[.d .nilFn] }:=rfl
@[simp]theorem tb_164:tb 164=some { size:=1,bytes:=8,zero:=[.d .nilFn] }:=rfl
@[simp]theorem tb_165:tb 165=some { size:=1,bytes:=8,zero:=[.d .nilFn] }:=rfl
@[simp]theorem tb_166:tb 166=some { size:=1,bytes:=24,zero:=[.nl],sl:=some 169 }:=rfl
@[simp]theorem tb_167:tb 167=some { size:=1,bytes:=8,zero:=[.d .nilFn] }:=rfl
@[simp]theorem tb_168:tb 168=some { agg:=true,size:=6,bytes:=112,zero:=[.d (.int .i64 0),.nl,.d (.bool false),.nl,.nl,.nl],flds:=[(0,51),(5,23)] }:=rfl
@[simp]theorem tb_169:tb 169=some { agg:=true,size:=6,bytes:=112,zero:=[.d (.int .i64 0),.nl,.d (.bool false),.nl,.nl,.nl],flds:=[(0,51),(5,23)] }:=rfl
@[simp]theorem tb_170:tb 170=some { size:=1,bytes:=8,zero:=[.d .nilFn] }:=rfl
@[simp]theorem tb_171:tb 171=some { size:=1,bytes:=8,zero:=[.d .nilFn] }:=rfl
@[simp]theorem tb_172:tb 172=some { size:=1,bytes:=8,zero:=[.d .nilFn] }:=rfl
@[simp]theorem tb_173:tb 173=some { size:=1,bytes:=8,zero:=[.d .nilFn] }:=rfl
@[simp]theorem tb_174:tb 174=some { size:=1,bytes:=8,zero:=[.d .nilFn] }:=rfl
@[simp]theorem tb_175:tb 175=some { size:=1,bytes:=8,zero:=[.d .nilFn] }:=rfl
@[simp]theorem tb_176:tb 176=some { size:=1,bytes:=8,zero:=[.d .nilFn] }:=rfl
@[simp]theorem tb_177:tb 177=some { size:=1,bytes:=8,zero:=[.d .nilFn] }:=rfl
@[simp]theorem tb_178:tb 178=some { agg:=true,size:=1,bytes:=8,zero:=[.d .nilFn],flds:=[(0,94)] }:=rfl
@[simp]theorem tb_179:tb 179=some { agg:=true,size:=1,bytes:=8,zero:=[.d .nilFn],flds:=[(0,94)] }:=rfl
@[simp]theorem tb_180:tb 180=some { size:=1,bytes:=8,zero:=[.d .nilFn] }:=rfl
@[simp]theorem tb_181:tb 181=some { size:=1,bytes:=8,zero:=[.d .nilFn] }:=rfl
@[simp]theorem tb_182:tb 182=some { size:=1,bytes:=8,zero:=[.d .nilFn] }:=rfl
@[simp]theorem tb_183:tb 183=some { size:=1,bytes:=2,zero:=[.d (.int .i16 0)] }:=rfl
@[simp]theorem tb_184:tb 184=some { agg:=true,size:=26,bytes:=52,zero:=List.replicate 26 (.d (.int .i16 0)),arr:=some (26,183),flat:=true }:=rfl
@[simp]theorem tb_185:tb 185=some { agg:=true,size:=26,bytes:=52,zero:=List.replicate 26 (.d (.int .i16 0)),arr:=some (26,183),flat:=true }:=rfl
@[simp]theorem tb_186:tb 186=some { size:=1,bytes:=8,zero:=[.d .nilFn] }:=rfl
@[simp]theorem tb_187:tb 187=some { size:=1,bytes:=8,zero:=[.d .nilFn] }:=rfl
@[simp]theorem tb_188:tb 188=some { size:=1,bytes:=8,zero:=[.d .nilFn] }:=rfl
@[simp]theorem tb_189:tb 189=some { size:=1,bytes:=8,zero:=[.d .nilFn] }:=rfl
@[simp]theorem tb_191:tb 191=some { size:=1,bytes:=8,zero:=[.d .nilFn] }:=rfl
@[simp]theorem tb_192:tb 192=some { agg:=true,size:=6,bytes:=112,zero:=[.d (.bool false),.nl,.nl,.d (.bool false),.nl,.nl],arr:=some (2,49) }:=rfl
@[simp]theorem tb_193:tb 193=some { agg:=true,size:=6,bytes:=112,zero:=[.d (.bool false),.nl,.nl,.d (.bool false),.nl,.nl],arr:=some (2,49) }:=rfl
@[simp]theorem tb_194:tb 194=some { size:=1,bytes:=8,zero:=[.d .nilFn] }:=rfl
@[simp]theorem tb_195:tb 195=some { size:=1,bytes:=8,zero:=[.d .nilFn] }:=rfl
@[simp]theorem tb_196:tb 196=some { size:=1,bytes:=8,zero:=[.d .nilFn] }:=rfl
@[simp]theorem tb_197:tb 197=some { size:=1,bytes:=8,zero:=[.d .nilFn] }:=rfl
@[simp]theorem tb_198:tb 198=some { size:=1,bytes:=8,zero:=[.d .nilFn] }:=rfl
@[simp]theorem tb_199:tb 199=some { size:=1,bytes:=8,zero:=[.d .nilFn] }:=rfl
@[simp]theorem tb_200:tb 200=some { size:=1,bytes:=8,zero:=[.d .nilFn] }:=rfl
@[simp]theorem tb_201:tb 201=some { size:=1,bytes:=8,zero:=[.d .nilFn] }:=rfl
@[simp]theorem tb_202:tb 202=some { size:=1,bytes:=8,zero:=[.d .nilFn] }:=rfl
@[simp]theorem tb_203:tb 203=some { size:=1,bytes:=8,zero:=[.d .nilFn] }:=rfl
@[simp]theorem tb_204:tb 204=some { size:=1,bytes:=8,zero:=[.d .nilFn] }:=rfl
@[simp]theorem tb_205:tb 205=some { size:=1,bytes:=24,zero:=[.nl],sl:=some 208 }:=rfl
@[simp]theorem tb_206:tb 206=some { size:=1,bytes:=8,zero:=[.d .nilFn] }:=rfl
@[simp]theorem tb_207:tb 207=some { agg:=true,size:=7,bytes:=136,zero:=[.d (.int .i64 0),.nl,.d (.bool false),.nl,.nl,.nl,.nl],flds:=[(0,51),(5,43),(6,23)] }:=rfl
@[simp]theorem tb_208:tb 208=some { agg:=true,size:=7,bytes:=136,zero:=[.d (.int .i64 0),.nl,.d (.bool false),.nl,.nl,.nl,.nl],flds:=[(0,51),(5,43),(6,23)] }:=rfl
@[simp]theorem tb_209:tb 209=some { size:=1,bytes:=2,zero:=[.d (.int .u16 0)] }:=rfl
@[simp]theorem tb_210:tb 210=some { size:=1,bytes:=8,zero:=[.d .nilFn] }:=rfl
@[simp]theorem tb_212:tb 212=some { size:=1,bytes:=8,zero:=[.d .nilFn] }:=rfl
@[simp]theorem tb_213:tb 213=some { agg:=true,size:=4,bytes:=40,zero:=[.d (.int .i64 0),.d (.str ByteArray.empty),.d (.bool false),.d (.int .i64 0)],flds:=[(0,3),(1,9),(2,4),(3,3)] }:=rfl
@[simp]theorem tb_214:tb 214=some { agg:=true,size:=4,bytes:=40,zero:=[.d (.int .i64 0),.d (.str ByteArray.empty),.d (.bool false),.d (.int .i64 0)],flds:=[(0,3),(1,9),(2,4),(3,3)] }:=rfl
@[simp]theorem tb_215:tb 215=some { size:=1,bytes:=8,zero:=[.d .nilFn] }:=rfl
@[simp]theorem tb_216:tb 216=some { size:=1,bytes:=8,zero:=[.d .nilFn] }:=rfl
@[simp]theorem tb_217:tb 217=some { size:=1,bytes:=8,zero:=[.d .nilFn] }:=rfl
@[simp]theorem tb_218:tb 218=some { size:=1,bytes:=8,zero:=[.d .nilFn] }:=rfl
@[simp]theorem tb_219:tb 219=some { size:=1,bytes:=8,zero:=[.d .nilFn] }:=rfl
@[simp]theorem tb_220:tb 220=some { size:=1,bytes:=8,zero:=[.d .nilFn] }:=rfl
@[simp]theorem tb_221:tb 221=some { size:=1,bytes:=8,zero:=[.d .nilFn] }:=rfl
@[simp]theorem tb_222:tb 222=some { size:=1,bytes:=8,zero:=[.d .nilFn] }:=rfl
@[simp]theorem tb_223:tb 223=some { size:=1,bytes:=8,zero:=[.d .nilFn] }:=rfl
@[simp]theorem tb_224:tb 224=some { size:=1,bytes:=8,zero:=[.d .nilPtr] }:=rfl
@[simp]theorem tb_225:tb 225=some { agg:=true,size:=2,bytes:=32,zero:=[.d .nilPtr,.nl],flds:=[(0,224),(1,93)] }:=rfl
@[simp]theorem tb_226:tb 226=some { agg:=true,size:=2,bytes:=32,zero:=[.d .nilPtr,.nl],flds:=[(0,224),(1,93)] }:=rfl
@[simp]theorem tb_227:tb 227=some { size:=1,bytes:=16,zero:=[.d (.lit .nilIface)] }:=rfl
@[simp]theorem tb_228:tb 228=some { size:=1,bytes:=16,zero:=[.d (.lit .nilIface)] }:=rfl
@[simp]theorem tb_230:tb 230=some { size:=1,bytes:=8,zero:=[.d .nilFn] }:=rfl
@[simp]theorem tb_231:tb 231=some { size:=1,bytes:=8,zero:=[.d .nilFn] }:=rfl
@[simp]theorem tb_232:tb 232=some { size:=1,bytes:=8,zero:=[.d .nilFn] }:=rfl
@[simp]theorem tb_233:tb 233=some { size:=1,bytes:=8,zero:=[.d .nilFn] }:=rfl
@[simp]theorem tb_234:tb 234=some { size:=1,bytes:=8,zero:=[.d .nilFn] }:=rfl
@[simp]theorem tb_235:tb 235=some { size:=1,bytes:=8,zero:=[.d .nilFn] }:=rfl
@[simp]theorem tb_236:tb 236=some { size:=1,bytes:=8,zero:=[.d .nilFn] }:=rfl
@[simp]theorem tb_237:tb 237=some { size:=1,bytes:=8,zero:=[.d .nilFn] }:=rfl
@[simp]theorem tb_238:tb 238=some { size:=1,bytes:=8,zero:=[.d .nilFn] }:=rfl
@[simp]theorem tb_239:tb 239=some { size:=1,bytes:=8,zero:=[.d .nilFn] }:=rfl
@[simp]theorem tb_240:tb 240=some { size:=1,bytes:=8,zero:=[.d .nilFn] }:=rfl
@[simp]theorem tb_241:tb 241=some { size:=1,bytes:=8,zero:=[.d .nilFn] }:=rfl
@[simp]theorem tb_242:tb 242=some { size:=1,bytes:=8,zero:=[.d .nilFn] }:=rfl
@[simp]theorem tb_243:tb 243=some { size:=1,bytes:=8,zero:=[.d .nilFn] }:=rfl
@[simp]theorem tb_244:tb 244=some { size:=1,bytes:=8,zero:=[.d .nilFn] }:=rfl
@[simp]theorem tb_245:tb 245=some { size:=1,bytes:=8,zero:=[.d .nilFn] }:=rfl
@[simp]theorem tb_246:tb 246=some { size:=1,bytes:=8,zero:=[.d .nilFn] }:=rfl
@[simp]theorem tb_247:tb 247=some { size:=1,bytes:=24,zero:=[.nl],sl:=some 250 }:=rfl
@[simp]theorem tb_248:tb 248=some { size:=1,bytes:=8,zero:=[.d .nilFn] }:=rfl
@[simp]theorem tb_249:tb 249=some { agg:=true,size:=5,bytes:=72,zero:=[.d (.int .i64 0),.d (.int .i64 0),.d (.bool false),.nl,.nl],flds:=[(0,3),(1,3),(2,49)] }:=rfl
@[simp]theorem tb_250:tb 250=some { agg:=true,size:=5,bytes:=72,zero:=[.d (.int .i64 0),.d (.int .i64 0),.d (.bool false),.nl,.nl],flds:=[(0,3),(1,3),(2,49)] }:=rfl
@[simp]theorem tb_251:tb 251=some { size:=1,bytes:=8,zero:=[.d .nilFn] }:=rfl
@[simp]theorem tb_252:tb 252=some { size:=1,bytes:=8,zero:=[.d .nilFn] }:=rfl
@[simp]theorem tb_253:tb 253=some { size:=1,bytes:=8,zero:=[.d .nilFn] }:=rfl
@[simp]theorem tb_254:tb 254=some { size:=1,bytes:=24,zero:=[.nl],sl:=some 43 }:=rfl
@[simp]theorem tb_255:tb 255=some { size:=1,bytes:=8,zero:=[.d .nilFn] }:=rfl
@[simp]theorem tb_257:tb 257=some { size:=1,bytes:=8,zero:=[.d .nilFn] }:=rfl
@[simp]theorem tb_258:tb 258=some { size:=1,bytes:=8,zero:=[.d .nilFn] }:=rfl
@[simp]theorem tb_259:tb 259=some { size:=1,bytes:=8,zero:=[.d .nilFn] }:=rfl
@[simp]theorem tb_260:tb 260=some { size:=1,bytes:=24,zero:=[.nl],sl:=some 126 }:=rfl
@[simp]theorem tb_261:tb 261=some { size:=1,bytes:=8,zero:=[.d .nilFn] }:=rfl
@[simp]theorem tb_262:tb 262=some { size:=1,bytes:=24,zero:=[.nl],sl:=some 263 }:=rfl
@[simp]theorem tb_263:tb 263=some { size:=1,bytes:=24,zero:=[.nl],sl:=some 314 }:=rfl
@[simp]theorem tb_264:tb 264=some { size:=1,bytes:=8,zero:=[.d .nilFn] }:=rfl
@[simp]theorem tb_265:tb 265=some { size:=1,bytes:=8,zero:=[.d .nilFn] }:=rfl
@[simp]theorem tb_266:tb 266=some { agg:=true,size:=2,bytes:=16,zero:=[.d (.int .i64 0),.d (.int .u16 0)],flds:=[(0,3),(1,209)],flat:=true }:=rfl
@[simp]theorem tb_267:tb 267=some { agg:=true,size:=2,bytes:=16,zero:=[.d (.int .i64 0),.d (.int .u16 0)],flds:=[(0,3),(1,209)],flat:=true }:=rfl
@[simp]theorem tb_269:tb 269=some { size:=1,bytes:=8,zero:=[.d .nilFn] }:=rfl
@[simp]theorem tb_270:tb 270=some { size:=1,bytes:=8,zero:=[.d .nilFn] }:=rfl
@[simp]theorem tb_271:tb 271=some { agg:=true,size:=3,bytes:=32,zero:=[.d (.int .i64 0),.d (.str ByteArray.empty),.d (.int .i64 0)],flds:=[(0,3),(1,9),(2,3)] }:=rfl
@[simp]theorem tb_272:tb 272=some { agg:=true,size:=3,bytes:=32,zero:=[.d (.int .i64 0),.d (.str ByteArray.empty),.d (.int .i64 0)],flds:=[(0,3),(1,9),(2,3)] }:=rfl
@[simp]theorem tb_273:tb 273=some { size:=1,bytes:=8,zero:=[.d .nilFn] }:=rfl
@[simp]theorem tb_274:tb 274=some { size:=1,bytes:=8,zero:=[.d .nilFn] }:=rfl
@[simp]theorem tb_275:tb 275=some { size:=1,bytes:=8,zero:=[.d .nilFn] }:=rfl
@[simp]theorem tb_276:tb 276=some { size:=1,bytes:=8,zero:=[.d .nilFn] }:=rfl
@[simp]theorem tb_278:tb 278=some { size:=1,bytes:=8,zero:=[.d .nilFn] }:=rfl
@[simp]theorem tb_279:tb 279=some { size:=1,bytes:=8,zero:=[.d .nilFn] }:=rfl
@[simp]theorem tb_280:tb 280=some { size:=1,bytes:=24,zero:=[.nl],sl:=some 9 }:=rfl
@[simp]theorem tb_281:tb 281=some { size:=1,bytes:=8,zero:=[.d .nilFn] }:=rfl
@[simp]theorem tb_282:tb 282=some { size:=1,bytes:=8,zero:=[.d .nilFn] }:=rfl
@[simp]theorem tb_283:tb 283=some { size:=1,bytes:=8,zero:=[.d .nilFn] }:=rfl
@[simp]theorem tb_284:tb 284=some { size:=1,bytes:=8,zero:=[.d .nilFn] }:=rfl
@[simp]theorem tb_285:tb 285=some { size:=1,bytes:=8,zero:=[.d .nilFn] }:=rfl
@[simp]theorem tb_286:tb 286=some { size:=1,bytes:=8,zero:=[.d .nilFn] }:=rfl
@[simp]theorem tb_287:tb 287=some { size:=1,bytes:=8,zero:=[.d .nilFn] }:=rfl
@[simp]theorem tb_288:tb 288=some { size:=1,bytes:=8,zero:=[.d .nilPtr] }:=rfl
@[simp]theorem tb_289:tb 289=some { size:=1,bytes:=8,zero:=[.d .nilFn] }:=rfl
@[simp]theorem tb_290:tb 290=some { size:=1,bytes:=8,zero:=[.d .nilFn] }:=rfl
@[simp]theorem tb_291:tb 291=some { agg:=true,size:=26,bytes:=208,zero:=List.replicate 26 (.d (.int .i64 0)),arr:=some (26,3),flat:=true }:=rfl
@[simp]theorem tb_292:tb 292=some { agg:=true,size:=2,bytes:=16,zero:=[.d (.int .i64 0),.d (.int .i64 0)],arr:=some (2,3),flat:=true }:=rfl
@[simp]theorem tb_293:tb 293=some { agg:=true,size:=52,bytes:=416,zero:=List.replicate 52 (.d (.int .i64 0)),arr:=some (26,292) }:=rfl
@[simp]theorem tb_294:tb 294=some { agg:=true,size:=78,bytes:=624,zero:=List.replicate 78 (.d (.int .i64 0)),flds:=[(0,291),(26,293)] }:=rfl
@[simp]theorem tb_295:tb 295=some { agg:=true,size:=78,bytes:=624,zero:=List.replicate 78 (.d (.int .i64 0)),flds:=[(0,291),(26,293)] }:=rfl
@[simp]theorem tb_296:tb 296=some { size:=1,bytes:=8,zero:=[.d .nilFn] }:=rfl
@[simp]theorem tb_297:tb 297=some { size:=1,bytes:=8,zero:=[.d .nilFn] }:=rfl
@[simp]theorem tb_298:tb 298=some { size:=1,bytes:=8,zero:=[.d .nilFn] }:=rfl
@[simp]theorem tb_299:tb 299=some { size:=1,bytes:=8,zero:=[.d .nilFn] }:=rfl
@[simp]theorem tb_300:tb 300=some { size:=1,bytes:=8,zero:=[.d .nilFn] }:=rfl
@[simp]theorem tb_301:tb 301=some { size:=1,bytes:=8,zero:=[.d .nilFn] }:=rfl
@[simp]theorem tb_302:tb 302=some { size:=1,bytes:=8,zero:=[.d (.int .u64 0)] }:=rfl
@[simp]theorem tb_303:tb 303=some { size:=1,bytes:=8,zero:=[.d .nilFn] }:=rfl
@[simp]theorem tb_304:tb 304=some { size:=1,bytes:=8,zero:=[.d .nilFn] }:=rfl
@[simp]theorem tb_305:tb 305=some { size:=1,bytes:=8,zero:=[.d .nilFn] }:=rfl
@[simp]theorem tb_306:tb 306=some { agg:=true,size:=4,bytes:=32,zero:=[.d (.int .i64 0),.d (.int .i64 0),.d (.int .i64 0),.d (.int .i64 0)],arr:=some (2,116) }:=rfl
@[simp]theorem tb_307:tb 307=some { size:=1,bytes:=8,zero:=[.d .nilPtr] }:=rfl
@[simp]theorem tb_308:tb 308=some { size:=1,bytes:=24,zero:=[.nl],sl:=some 307 }:=rfl
@[simp]theorem tb_309:tb 309=some { size:=1,bytes:=8,zero:=[.d .nilFn] }:=rfl
@[simp]theorem tb_310:tb 310=some { size:=1,bytes:=8,zero:=[.d .nilFn] }:=rfl
@[simp]theorem tb_311:tb 311=some { size:=1,bytes:=8,zero:=[.d .nilFn] }:=rfl
@[simp]theorem tb_312:tb 312=some { size:=1,bytes:=8,zero:=[.d .nilFn] }:=rfl
@[simp]theorem tb_313:tb 313=some { agg:=true,size:=2,bytes:=32,zero:=[.d (.int .i64 0),.nl],flds:=[(0,3),(1,43)] }:=rfl
@[simp]theorem tb_314:tb 314=some { agg:=true,size:=2,bytes:=32,zero:=[.d (.int .i64 0),.nl],flds:=[(0,3),(1,43)] }:=rfl
@[simp]theorem tb_316:tb 316=some { size:=1,bytes:=8,zero:=[.d .nilFn] }:=rfl
@[simp]theorem tb_317:tb 317=some { size:=1,bytes:=8,zero:=[.d .nilFn] }:=rfl
@[simp]theorem tb_318:tb 318=some { size:=1,bytes:=8,zero:=[.d .nilFn] }:=rfl
@[simp]theorem tb_319:tb 319=some { size:=1,bytes:=8,zero:=[.d .nilFn] }:=rfl
@[simp]theorem tb_321:tb 321=some { size:=1,bytes:=8,zero:=[.d .nilFn] }:=rfl
@[simp]theorem tb_322:tb 322=some { size:=1,bytes:=8,zero:=[.d .nilFn] }:=rfl
@[simp]theorem tb_323:tb 323=some { size:=1,bytes:=8,zero:=[.d .nilFn] }:=rfl
@[simp]theorem tb_325:tb 325=some { size:=1,bytes:=8,zero:=[.d .nilFn] }:=rfl
@[simp]theorem tb_326:tb 326=some { size:=1,bytes:=24,zero:=[.nl],sl:=some 328 }:=rfl
@[simp]theorem tb_327:tb 327=some { size:=1,bytes:=8,zero:=[.d .nilFn] }:=rfl
@[simp]theorem tb_328:tb 328=some { size:=1,bytes:=24,zero:=[.nl],sl:=some 292 }:=rfl
@[simp]theorem tb_329:tb 329=some { size:=1,bytes:=8,zero:=[.d .nilFn] }:=rfl
@[simp]theorem tb_330:tb 330=some { size:=1,bytes:=8,zero:=[.d .nilFn] }:=rfl
@[simp]theorem tb_331:tb 331=some { size:=1,bytes:=8,zero:=[.d .nilFn] }:=rfl
@[simp]theorem tb_332:tb 332=some { size:=1,bytes:=8,zero:=[.d (.int .i64 0)] }:=rfl
@[simp]theorem tb_334:tb 334=some { size:=1,bytes:=8,zero:=[.d .nilFn] }:=rfl
@[simp]theorem tb_335:tb 335=some { size:=1,bytes:=8,zero:=[.d .nilFn] }:=rfl
@[simp]theorem tb_336:tb 336=some { size:=1,bytes:=8,zero:=[.d .nilFn] }:=rfl
@[simp]theorem tb_337:tb 337=some { size:=1,bytes:=8,zero:=[.d .nilFn] }:=rfl
@[simp]theorem tb_338:tb 338=some { size:=1,bytes:=8,zero:=[.d .nilFn] }:=rfl
@[simp]theorem tb_339:tb 339=some { size:=1,bytes:=4,zero:=[.d (.int .u32 0)] }:=rfl
@[simp]theorem tb_340:tb 340=some { size:=1,bytes:=8,zero:=[.d .nilFn] }:=rfl
@[simp]theorem tb_341:tb 341=some { size:=1,bytes:=8,zero:=[.d .nilFn] }:=rfl
@[simp]theorem tb_342:tb 342=some { size:=1,bytes:=8,zero:=[.d .nilFn] }:=rfl
@[simp]theorem tb_343:tb 343=some { size:=1,bytes:=8,zero:=[.d .nilFn] }:=rfl
@[simp]theorem tb_344:tb 344=some { size:=1,bytes:=8,zero:=[.d .nilFn] }:=rfl
@[simp]theorem tb_345:tb 345=some { size:=1,bytes:=8,zero:=[.d .nilFn] }:=rfl
@[simp]theorem tb_346:tb 346=some { size:=1,bytes:=8,zero:=[.d .nilFn] }:=rfl
@[simp]theorem tb_347:tb 347=some { size:=1,bytes:=8,zero:=[.d .nilFn] }:=rfl
@[simp]theorem tb_348:tb 348=some { size:=1,bytes:=24,zero:=[.nl],sl:=some 47 }:=rfl
@[simp]theorem tb_349:tb 349=some { agg:=true,size:=24,bytes:=24,zero:=List.replicate 24 (.d (.int .u8 0)),arr:=some (24,5),flat:=true }:=rfl
@[simp]theorem tb_350:tb 350=some { size:=1,bytes:=8,zero:=[.d .nilFn] }:=rfl
@[simp]theorem tb_352:tb 352=some { size:=1,bytes:=8,zero:=[.d .nilFn] }:=rfl
@[simp]theorem tb_353:tb 353=some { size:=1,bytes:=8,zero:=[.d .nilFn] }:=rfl
@[simp]theorem tb_354:tb 354=some { size:=1,bytes:=8,zero:=[.d .nilPtr] }:=rfl
@[simp]theorem tb_355:tb 355=some { size:=1,bytes:=8,zero:=[.d .nilFn] }:=rfl
@[simp]theorem tb_356:tb 356=some { size:=1,bytes:=8,zero:=[.d .nilFn] }:=rfl
@[simp]theorem tb_357:tb 357=some { size:=1,bytes:=8,zero:=[.d .nilFn] }:=rfl
@[simp]theorem tb_358:tb 358=some { size:=1,bytes:=8,zero:=[.d .nilFn] }:=rfl
@[simp]theorem tb_359:tb 359=some { size:=1,bytes:=8,zero:=[.d (.int .u64 0)] }:=rfl
@[simp]theorem tb_360:tb 360=some { size:=1,bytes:=8,zero:=[.d .nilFn] }:=rfl
@[simp]theorem tb_361:tb 361=some { size:=1,bytes:=8,zero:=[.d .nilFn] }:=rfl
@[simp]theorem tb_362:tb 362=some { size:=1,bytes:=8,zero:=[.d .nilFn] }:=rfl
@[simp]theorem tb_363:tb 363=some { size:=1,bytes:=8,zero:=[.d .nilFn] }:=rfl
@[simp]theorem tb_364:tb 364=some { size:=1,bytes:=8,zero:=[.d .nilFn] }:=rfl
@[simp]theorem tb_365:tb 365=some { size:=1,bytes:=8,zero:=[.d .nilFn] }:=rfl
@[simp]theorem tb_366:tb 366=some { size:=1,bytes:=8,zero:=[.d .nilFn] }:=rfl
@[simp]theorem tb_367:tb 367=some { size:=1,bytes:=8,zero:=[.d .nilFn] }:=rfl
@[simp]theorem tb_368:tb 368=some { size:=1,bytes:=8,zero:=[.d .nilFn] }:=rfl
@[simp]theorem tb_369:tb 369=some { size:=1,bytes:=8,zero:=[.d .nilFn] }:=rfl
@[simp]theorem tb_370:tb 370=some { agg:=true,size:=4,bytes:=32,zero:=[.d (.int .i64 0),.d (.int .i64 0),.d (.int .i64 0),.d (.int .i64 0)],arr:=some (4,3),flat:=true }:=rfl
@[simp]theorem tb_371:tb 371=some { agg:=true,size:=32,bytes:=256,zero:=List.replicate 32 (.d (.int .i64 0)),arr:=some (8,370) }:=rfl
@[simp]theorem tb_372:tb 372=some { size:=1,bytes:=8,zero:=[.d .nilFn] }:=rfl
@[simp]theorem tb_373:tb 373=some { agg:=true,size:=20,bytes:=160,zero:=List.replicate 20 (.d (.int .u64 0)),arr:=some (20,155),flat:=true }:=rfl
@[simp]theorem tb_374:tb 374=some { agg:=true,size:=65,bytes:=65,zero:=List.replicate 65 (.d (.int .u8 0)),arr:=some (65,5),flat:=true }:=rfl
@[simp]theorem tb_375:tb 375=some { size:=1,bytes:=8,zero:=[.d .nilPtr] }:=rfl
@[simp]theorem tb_376:tb 376=some { size:=1,bytes:=8,zero:=[.d .nilFn] }:=rfl
@[simp]theorem tb_377:tb 377=some { size:=1,bytes:=8,zero:=[.d .nilPtr] }:=rfl
@[simp]theorem tb_379:tb 379=some { size:=1,bytes:=8,zero:=[.d .nilFn] }:=rfl
@[simp]theorem tb_380:tb 380=some { size:=1,bytes:=8,zero:=[.d .nilFn] }:=rfl
@[simp]theorem tb_381:tb 381=some { size:=1,bytes:=8,zero:=[.d .nilFn] }:=rfl
@[simp]theorem tb_382:tb 382=some { size:=1,bytes:=8,zero:=[.d .nilFn] }:=rfl
@[simp]theorem tb_383:tb 383=some { size:=1,bytes:=8,zero:=[.d .nilFn] }:=rfl
@[simp]theorem tb_384:tb 384=some { size:=1,bytes:=8,zero:=[.d .nilFn] }:=rfl
@[simp]theorem tb_385:tb 385=some { size:=1,bytes:=8,zero:=[.d .nilFn] }:=rfl
@[simp]theorem tb_386:tb 386=some { size:=1,bytes:=8,zero:=[.d .nilFn] }:=rfl
@[simp]theorem tb_387:tb 387=some { size:=1,bytes:=8,zero:=[.d .nilFn] }:=rfl
@[simp]theorem tb_388:tb 388=some { agg:=true,size:=32,bytes:=32,zero:=List.replicate 32 (.d (.int .u8 0)),arr:=some (32,5),flat:=true }:=rfl
@[simp]theorem tb_389:tb 389=some { agg:=true,size:=64,bytes:=64,zero:=List.replicate 64 (.d (.int .u8 0)),arr:=some (64,5),flat:=true }:=rfl
@[simp]theorem tb_390:tb 390=some { size:=1,bytes:=8,zero:=[.d .nilFn] }:=rfl
@[simp]theorem tb_391:tb 391=some { size:=1,bytes:=8,zero:=[.d .nilFn] }:=rfl
@[simp]theorem tb_392:tb 392=some { size:=1,bytes:=8,zero:=[.d .nilFn] }:=rfl
@[simp]theorem tb_393:tb 393=some { agg:=true,size:=4,bytes:=40,zero:=[.d .nilPtr,.d .nilPtr,.d .nilPtr,.d (.str ByteArray.empty)],flds:=[(0,17),(1,17),(2,17),(3,9)] }:=rfl
@[simp]theorem tb_394:tb 394=some { agg:=true,size:=4,bytes:=40,zero:=[.d .nilPtr,.d .nilPtr,.d .nilPtr,.d (.str ByteArray.empty)],flds:=[(0,17),(1,17),(2,17),(3,9)] }:=rfl
@[simp]theorem tb_395:tb 395=some { agg:=true,size:=0,bytes:=0,zero:=[],arr:=some (0,16) }:=rfl
@[simp]theorem tb_396:tb 396=some { agg:=true,size:=0,bytes:=0,zero:=[],flds:=[(0,395)] }:=rfl
@[simp]theorem tb_397:tb 397=some { agg:=true,size:=0,bytes:=0,zero:=[],flds:=[(0,395)] }:=rfl
@[simp]theorem tb_398:tb 398=some { size:=1,bytes:=1,zero:=[.d (.int .u8 0)] }:=rfl
@[simp]theorem tb_399:tb 399=some { size:=1,bytes:=1,zero:=[.d (.int .u8 0)] }:=rfl
@[simp]theorem tb_400:tb 400=some { size:=1,bytes:=8,zero:=[.d .nilFn] }:=rfl
@[simp]theorem tb_401:tb 401=some { size:=1,bytes:=4,zero:=[.d (.int .i32 0)] }:=rfl
@[simp]theorem tb_402:tb 402=some { size:=1,bytes:=4,zero:=[.d (.int .i32 0)] }:=rfl
@[simp]theorem tb_403:tb 403=some { agg:=true,size:=11,bytes:=48,zero:=[.d (.int .u64 0),.d (.int .u64 0),.d (.int .u32 0),.d (.int .u8 0),.d (.int .u8 0),.d (.int .u8 0),.d (.int .u8 0),.d .nilFn,.d .nilPtr,.d (.int .i32 0),.d (.int .i32 0)],flds:=[(0,12),(1,12),(2,339),(3,398),(4,5),(5,5),(6,399),(7,400),(8,288),(9,401),(10,402)] }:=rfl
@[simp]theorem tb_404:tb 404=some { agg:=true,size:=11,bytes:=48,zero:=[.d (.int .u64 0),.d (.int .u64 0),.d (.int .u32 0),.d (.int .u8 0),.d (.int .u8 0),.d (.int .u8 0),.d (.int .u8 0),.d .nilFn,.d .nilPtr,.d (.int .i32 0),.d (.int .i32 0)],flds:=[(0,12),(1,12),(2,339),(3,398),(4,5),(5,5),(6,399),(7,400),(8,288),(9,401),(10,402)] }:=rfl
@[simp]theorem tb_405:tb 405=some { size:=1,bytes:=8,zero:=[.d .nilFn] }:=rfl
end Go.Va
