/- a part of the proof -/
import Derived.Test.YtkfdniccmcolgaaGreatQab
import Derived.Test.YtkfdniccmcolgaaGreatProg
set_option linter.all false
set_option maxRecDepth 20000
namespace Go.Va
open Go.Proofs
def jjk:TI:={ size:=1,bytes:=8,zero:=[.d .nilFn] }
def jji:TI:={ size:=1,bytes:=8,zero:=[.d (.int .i64 0)] }
def jdf:TI:={ size:=1,bytes:=8,zero:=[.d (.int .i64 0)] }
def Yu:TI:={ size:=1,bytes:=1,zero:=[.d (.bool false)] }
def jeH:TI:={ size:=1,bytes:=1,zero:=[.d (.int .u8 0)] }
def jjq:TI:={ size:=1,bytes:=1,zero:=[.d (.int .u8 0)] }
def jjj:TI:={ agg:=true,size:=4,bytes:=24,zero:=[.d (.int .i64 0),.d (.int .i64 0),.d (.bool false),.d (.int .u8 0)],flds:=[(0,2),(1,3),(2,4),(3,6)],flat:=true }
def jjs:TI:={ agg:=true,size:=4,bytes:=24,zero:=[.d (.int .i64 0),.d (.int .i64 0),.d (.bool false),.d (.int .u8 0)],flds:=[(0,2),(1,3),(2,4),(3,6)],flat:=true }
def jez:TI:={ size:=1,bytes:=16,zero:=[.d (.str ByteArray.empty)] }
def jjc:TI:={ size:=1,bytes:=16,zero:=[.d (.str ByteArray.empty)] }
def jjp:TI:={ size:=1,bytes:=16,zero:=[.d (.str ByteArray.empty)] }
def ji5:TI:={ size:=1,bytes:=8,zero:=[.d (.int .u64 0)] }
def Ro:TI:={ agg:=true,size:=2,bytes:=24,zero:=[.d (.str ByteArray.empty),.d (.int .u64 0)],flds:=[(0,9),(1,12)] }
def Nr:TI:={ agg:=true,size:=2,bytes:=24,zero:=[.d (.str ByteArray.empty),.d (.int .u64 0)],flds:=[(0,9),(1,12)] }
def jbT:TI:={ size:=1,bytes:=8,zero:=[.d .nilPtr] }
def UK:TI:={ size:=1,bytes:=8,zero:=[.d .nilPtr] }
def S5:TI:={ size:=1,bytes:=8,zero:=[.d .nilPtr] }
def Nn:TI:={ agg:=true,size:=1,bytes:=8,zero:=[.d .nilPtr],flds:=[(0,17)] }
def jaL:TI:={ agg:=true,size:=1,bytes:=8,zero:=[.d .nilPtr],flds:=[(0,17)] }
def W6:TI:={ size:=1,bytes:=4,zero:=[.d (.int .i32 0)] }
def jdo:TI:={ size:=1,bytes:=24,zero:=[.nl],sl:=some 39 }
def RO:TI:={ size:=1,bytes:=8,zero:=[.d .nilFn] }
def jjd:TI:={ size:=1,bytes:=8,zero:=[.d .nilFn] }
def YI:TI:={ size:=1,bytes:=24,zero:=[.nl],sl:=some 60 }
def W1:TI:={ size:=1,bytes:=8,zero:=[.d .nilFn] }
def MH:TI:={ size:=1,bytes:=8,zero:=[.d .nilFn] }
def SA:TI:={ size:=1,bytes:=8,zero:=[.d .nilFn] }
def T0:TI:={ size:=1,bytes:=8,zero:=[.d .nilFn] }
def Yp:TI:={ size:=1,bytes:=24,zero:=[.nl],sl:=some 3 }
def Yo:TI:={ size:=1,bytes:=24,zero:=[.nl],sl:=some 139 }
def Yq:TI:={ size:=1,bytes:=24,zero:=[.nl],sl:=some 139 }
def jb1:TI:={ agg:=true,size:=2,bytes:=32,zero:=[.d (.bool false),.nl],flds:=[(0,4),(1,33)] }
def jaO:TI:={ agg:=true,size:=2,bytes:=32,zero:=[.d (.bool false),.nl],flds:=[(0,4),(1,33)] }
def jaW:TI:={ agg:=true,size:=3,bytes:=56,zero:=[.d (.bool false),.nl,.nl],flds:=[(0,35),(2,33)] }
def jcO:TI:={ agg:=true,size:=3,bytes:=56,zero:=[.d (.bool false),.nl,.nl],flds:=[(0,35),(2,33)] }
def U8:TI:={ agg:=true,size:=5,bytes:=88,zero:=[.d (.int .i64 0),.nl,.d (.bool false),.nl,.nl],flds:=[(0,3),(1,31),(2,37)] }
def jai:TI:={ agg:=true,size:=5,bytes:=88,zero:=[.d (.int .i64 0),.nl,.d (.bool false),.nl,.nl],flds:=[(0,3),(1,31),(2,37)] }
def Zh:TI:={ size:=1,bytes:=8,zero:=[.d .nilFn] }
def TE:TI:={ size:=1,bytes:=8,zero:=[.d .nilFn] }
def WB:TI:={ size:=1,bytes:=8,zero:=[.d .nilFn] }
def jbp:TI:={ size:=1,bytes:=8,zero:=[.d .nilFn] }
def Pz:TI:={ size:=1,bytes:=8,zero:=[.d .nilFn] }
def NS:TI:={ size:=1,bytes:=8,zero:=[.d .nilFn] }
def Rc:TI:={ size:=1,bytes:=8,zero:=[.d .nilFn] }
def Ml:TI:={ size:=1,bytes:=24,zero:=[.nl],sl:=some 86 }
def L3:TI:={ size:=1,bytes:=8,zero:=[.d .nilFn] }
def jjb:TI:={ size:=1,bytes:=8,zero:=[.d (.int .i64 0)] }
def Ow:TI:={ size:=1,bytes:=8,zero:=[.d .nilFn] }
def ZP:TI:={ size:=1,bytes:=8,zero:=[.d .nilFn] }
def Zm:TI:={ size:=1,bytes:=8,zero:=[.d .nilFn] }
def Wi:TI:={ size:=1,bytes:=8,zero:=[.d .nilFn] }
def jba:TI:={ size:=1,bytes:=8,zero:=[.d .nilFn] }
def Te:TI:={ size:=1,bytes:=8,zero:=[.d .nilFn] }
def UT:TI:={ size:=1,bytes:=8,zero:=[.d .nilFn] }
def O9:TI:={ agg:=true,size:=2,bytes:=32,zero:=[.d (.int .i64 0),.nl],flds:=[(0,3),(1,31)] }
def jgr:TI:={ agg:=true,size:=2,bytes:=32,zero:=[.d (.int .i64 0),.nl],flds:=[(0,3),(1,31)] }
def Xe:TI:={ size:=1,bytes:=24,zero:=[.nl],sl:=some 64 }
def WL:TI:={ size:=1,bytes:=8,zero:=[.d .nilFn] }
def N1:TI:={ agg:=true,size:=6,bytes:=112,zero:=[.d (.int .i64 0),.nl,.d (.bool false),.nl,.nl,.nl],flds:=[(0,39),(5,25)] }
def jec:TI:={ agg:=true,size:=6,bytes:=112,zero:=[.d (.int .i64 0),.nl,.d (.bool false),.nl,.nl,.nl],flds:=[(0,39),(5,25)] }
def Y0:TI:={ size:=1,bytes:=8,zero:=[.d .nilFn] }
def jhI:TI:={ size:=1,bytes:=24,zero:=[.nl],sl:=some 69 }
def Q2:TI:={ size:=1,bytes:=8,zero:=[.d .nilFn] }
def LE:TI:={ agg:=true,size:=6,bytes:=112,zero:=[.d (.int .i64 0),.nl,.d (.bool false),.nl,.nl,.nl],flds:=[(0,39),(5,25)] }
def Zt:TI:={ agg:=true,size:=6,bytes:=112,zero:=[.d (.int .i64 0),.nl,.d (.bool false),.nl,.nl,.nl],flds:=[(0,39),(5,25)] }
def VS:TI:={ size:=1,bytes:=8,zero:=[.d .nilFn] }
def jjr:TI:={ size:=1,bytes:=8,zero:=[.d .nilFn] }
def Rw:TI:={ size:=1,bytes:=8,zero:=[.d .nilFn] }
def Nf:TI:={ size:=1,bytes:=8,zero:=[.d .nilFn] }
def jhK:TI:={ size:=1,bytes:=24,zero:=[.nl],sl:=some 155 }
def W5:TI:={ size:=1,bytes:=8,zero:=[.d .nilFn] }
def V4:TI:={ agg:=true,size:=6,bytes:=104,zero:=[.d (.str ByteArray.empty),.nl,.nl,.nl,.d (.int .i64 0),.d .nilFn],flds:=[(0,9),(1,74),(2,74),(3,74),(4,3),(5,75)] }
def Zi:TI:={ agg:=true,size:=6,bytes:=104,zero:=[.d (.str ByteArray.empty),.nl,.nl,.nl,.d (.int .i64 0),.d .nilFn],flds:=[(0,9),(1,74),(2,74),(3,74),(4,3),(5,75)] }
def Z6:TI:={ size:=1,bytes:=8,zero:=[.d .nilFn] }
def Ys:TI:={ size:=1,bytes:=24,zero:=[.nl],sl:=some 177 }
def Vw:TI:={ agg:=true,size:=4,bytes:=88,zero:=[.d (.str ByteArray.empty),.nl,.nl,.nl],flds:=[(0,9),(1,79),(2,79),(3,79)] }
def Z7:TI:={ agg:=true,size:=4,bytes:=88,zero:=[.d (.str ByteArray.empty),.nl,.nl,.nl],flds:=[(0,9),(1,79),(2,79),(3,79)] }
def Xf:TI:={ size:=1,bytes:=8,zero:=[.d .nilFn] }
def OX:TI:={ size:=1,bytes:=24,zero:=[.nl],sl:=some 37 }
def N7:TI:={ size:=1,bytes:=8,zero:=[.d .nilFn] }
def VW:TI:={ agg:=true,size:=6,bytes:=112,zero:=[.d (.bool false),.nl,.nl,.d (.bool false),.nl,.nl],flds:=[(0,37),(3,37)] }
def ZN:TI:={ agg:=true,size:=6,bytes:=112,zero:=[.d (.bool false),.nl,.nl,.d (.bool false),.nl,.nl],flds:=[(0,37),(3,37)] }
def Rr:TI:={ size:=1,bytes:=8,zero:=[.d .nilFn] }
def jaN:TI:={ size:=1,bytes:=8,zero:=[.d .nilFn] }
def U3:TI:={ size:=1,bytes:=8,zero:=[.d .nilFn] }
def RK:TI:={ agg:=true,size:=3,bytes:=40,zero:=[.d (.int .i64 0),.nl,.d (.int .i64 0)],flds:=[(0,3),(1,31),(2,3)] }
def V6:TI:={ agg:=true,size:=3,bytes:=40,zero:=[.d (.int .i64 0),.nl,.d (.int .i64 0)],flds:=[(0,3),(1,31),(2,3)] }
def YL:TI:={ size:=1,bytes:=8,zero:=[.d .nilFn] }
def QC:TI:={ size:=1,bytes:=8,zero:=[.d .nilFn] }
def QH:TI:={ size:=1,bytes:=8,zero:=[.d .nilFn] }
def jaV:TI:={ size:=1,bytes:=8,zero:=[.d .nilFn] }
def ZU:TI:={ size:=1,bytes:=8,zero:=[.d (.int .u64 0)] }
def jbJ:TI:={ size:=1,bytes:=8,zero:=[.d .nilFn] }
def Oc:TI:={ size:=1,bytes:=8,zero:=[.d .nilFn] }
def NX:TI:={ size:=1,bytes:=8,zero:=[.d .nilFn] }
def jja:TI:={ size:=1,bytes:=8,zero:=[.d .nilFn] }
def jcX:TI:={ size:=1,bytes:=8,zero:=[.d .nilFn] }
def ji8:TI:={ size:=1,bytes:=8,zero:=[.d .nilFn] }
def SE:TI:={ size:=1,bytes:=8,zero:=[.d .nilFn] }
def Ls:TI:={ size:=1,bytes:=8,zero:=[.d .nilFn] }
def jjg:TI:={ size:=1,bytes:=8,zero:=[.d .nilFn] }
def Lx:TI:={ size:=1,bytes:=8,zero:=[.d .nilFn] }
def Mv:TI:={ size:=1,bytes:=8,zero:=[.d .nilFn] }
def jjf:TI:={ size:=1,bytes:=8,zero:=[.d .nilFn] }
def Y5:TI:={ size:=1,bytes:=8,zero:=[.d .nilFn] }
def jdi:TI:={ size:=1,bytes:=2,zero:=[.d (.int .i16 0)] }
def X5:TI:={ agg:=true,size:=26,bytes:=52,zero:=List.replicate 26 (.d (.int .i16 0)),arr:=some (26,111),flat:=true }
def jfE:TI:={ agg:=true,size:=26,bytes:=52,zero:=List.replicate 26 (.d (.int .i16 0)),arr:=some (26,111),flat:=true }
def jbl:TI:={ size:=1,bytes:=8,zero:=[.d .nilFn] }
def RZ:TI:={ size:=1,bytes:=8,zero:=[.d .nilFn] }
def ZM:TI:={ agg:=true,size:=1,bytes:=8,zero:=[.d .nilFn],flds:=[(0,72)] }
def jej:TI:={ agg:=true,size:=1,bytes:=8,zero:=[.d .nilFn],flds:=[(0,72)] }
def P2:TI:={ size:=1,bytes:=8,zero:=[.d .nilFn] }
def Zb:TI:={ size:=1,bytes:=8,zero:=[.d .nilFn] }
def TT:TI:={ size:=1,bytes:=8,zero:=[.d .nilFn] }
def Ny:TI:={ size:=1,bytes:=8,zero:=[.d .nilFn] }
def Ms:TI:={ size:=1,bytes:=8,zero:=[.d .nilFn] }
def P8:TI:={ size:=1,bytes:=8,zero:=[.d .nilFn] }
def Qz:TI:={ size:=1,bytes:=8,zero:=[.d .nilFn] }
def Yd:TI:={ size:=1,bytes:=8,zero:=[.d .nilFn] }
def NW:TI:={ size:=1,bytes:=8,zero:=[.d .nilFn] }
def MV:TI:={ size:=1,bytes:=8,zero:=[.d .nilFn] }
def O3:TI:={ size:=1,bytes:=8,zero:=[.d .nilFn] }
def Ma:TI:={ size:=1,bytes:=8,zero:=[.d .nilFn] }
def YD:TI:={ size:=1,bytes:=8,zero:=[.d .nilFn] }
def jbu:TI:={ size:=1,bytes:=8,zero:=[.d .nilFn] }
def UW:TI:={ size:=1,bytes:=8,zero:=[.d .nilFn] }
def Wb:TI:={ size:=1,bytes:=8,zero:=[.d .nilFn] }
def Uf:TI:={ size:=1,bytes:=8,zero:=[.d .nilFn] }
def jaa:TI:={ size:=1,bytes:=8,zero:=[.d .nilFn] }
def SO:TI:={ size:=1,bytes:=8,zero:=[.d .nilFn] }
def jbi:TI:={ size:=1,bytes:=2,zero:=[.d (.int .u16 0)] }
def O2:TI:={ size:=1,bytes:=8,zero:=[.d .nilFn] }
def Y3:TI:={ size:=1,bytes:=24,zero:=[.nl],sl:=some 144 }
def SY:TI:={ size:=1,bytes:=8,zero:=[.d .nilFn] }
def jdk:TI:={ agg:=true,size:=2,bytes:=16,zero:=[.d (.int .i64 0),.d (.int .i64 0)],arr:=some (2,3),flat:=true }
def jfx:TI:={ agg:=true,size:=2,bytes:=16,zero:=[.d (.int .i64 0),.d (.int .i64 0)],arr:=some (2,3),flat:=true }
def ja2:TI:={ size:=1,bytes:=8,zero:=[.d .nilFn] }
def N8:TI:={ size:=1,bytes:=8,zero:=[.d .nilFn] }
def jaj:TI:={ size:=1,bytes:=8,zero:=[.d .nilFn] }
def jhk:TI:={ agg:=true,size:=26,bytes:=208,zero:=List.replicate 26 (.d (.int .i64 0)),arr:=some (26,3),flat:=true }
def Xi:TI:={ agg:=true,size:=2,bytes:=16,zero:=[.d (.int .i64 0),.d (.int .i64 0)],arr:=some (2,3),flat:=true }
def jf1:TI:={ agg:=true,size:=52,bytes:=416,zero:=List.replicate 52 (.d (.int .i64 0)),arr:=some (26,149) }
def XL:TI:={ agg:=true,size:=78,bytes:=624,zero:=List.replicate 78 (.d (.int .i64 0)),flds:=[(0,148),(26,150)] }
def jdU:TI:={ agg:=true,size:=78,bytes:=624,zero:=List.replicate 78 (.d (.int .i64 0)),flds:=[(0,148),(26,150)] }
def Ty:TI:={ size:=1,bytes:=8,zero:=[.d .nilFn] }
def XV:TI:={ agg:=true,size:=3,bytes:=32,zero:=[.d (.int .i64 0),.d (.str ByteArray.empty),.d (.int .i64 0)],flds:=[(0,3),(1,9),(2,3)] }
def jeT:TI:={ agg:=true,size:=3,bytes:=32,zero:=[.d (.int .i64 0),.d (.str ByteArray.empty),.d (.int .i64 0)],flds:=[(0,3),(1,9),(2,3)] }
def ji9:TI:={ size:=1,bytes:=8,zero:=[.d .nilFn] }
def Z5:TI:={ size:=1,bytes:=8,zero:=[.d .nilFn] }
def Qy:TI:={ size:=1,bytes:=8,zero:=[.d .nilFn] }
def NI:TI:={ size:=1,bytes:=8,zero:=[.d .nilFn] }
def NP:TI:={ size:=1,bytes:=8,zero:=[.d .nilFn] }
def ji6:TI:={ size:=1,bytes:=8,zero:=[.d (.int .u64 0)] }
def Sq:TI:={ size:=1,bytes:=8,zero:=[.d .nilFn] }
def ML:TI:={ size:=1,bytes:=8,zero:=[.d .nilFn] }
def jaR:TI:={ agg:=true,size:=2,bytes:=16,zero:=[.d (.int .i64 0),.d (.int .i64 0)],flds:=[(0,3),(1,3)],flat:=true }
def jg0:TI:={ agg:=true,size:=2,bytes:=16,zero:=[.d (.int .i64 0),.d (.int .i64 0)],flds:=[(0,3),(1,3)],flat:=true }
def L7:TI:={ size:=1,bytes:=8,zero:=[.d .nilFn] }
def MR:TI:={ size:=1,bytes:=8,zero:=[.d .nilFn] }
def T3:TI:={ size:=1,bytes:=8,zero:=[.d .nilFn] }
def jcF:TI:={ size:=1,bytes:=24,zero:=[.nl],sl:=some 172 }
def Zd:TI:={ size:=1,bytes:=8,zero:=[.d .nilFn] }
def PD:TI:={ agg:=true,size:=5,bytes:=72,zero:=[.d (.int .i64 0),.d (.int .i64 0),.d (.bool false),.nl,.nl],flds:=[(0,3),(1,3),(2,37)] }
def jfZ:TI:={ agg:=true,size:=5,bytes:=72,zero:=[.d (.int .i64 0),.d (.int .i64 0),.d (.bool false),.nl,.nl],flds:=[(0,3),(1,3),(2,37)] }
def Xt:TI:={ size:=1,bytes:=8,zero:=[.d .nilFn] }
def T2:TI:={ size:=1,bytes:=8,zero:=[.d .nilFn] }
def RP:TI:={ size:=1,bytes:=8,zero:=[.d .nilFn] }
def MY:TI:={ agg:=true,size:=4,bytes:=40,zero:=[.d (.int .i64 0),.d (.str ByteArray.empty),.d (.bool false),.d (.int .i64 0)],flds:=[(0,3),(1,9),(2,4),(3,3)] }
def Zu:TI:={ agg:=true,size:=4,bytes:=40,zero:=[.d (.int .i64 0),.d (.str ByteArray.empty),.d (.bool false),.d (.int .i64 0)],flds:=[(0,3),(1,9),(2,4),(3,3)] }
def N5:TI:={ size:=1,bytes:=8,zero:=[.d .nilFn] }
def YE:TI:={ size:=1,bytes:=24,zero:=[.nl],sl:=some 31 }
def Su:TI:={ size:=1,bytes:=8,zero:=[.d .nilFn] }
def QK:TI:={ size:=1,bytes:=8,zero:=[.d .nilFn] }
def Y8:TI:={ size:=1,bytes:=8,zero:=[.d .nilFn] }
def LV:TI:={ size:=1,bytes:=8,zero:=[.d .nilFn] }
def WF:TI:={ size:=1,bytes:=8,zero:=[.d .nilFn] }
def Qs:TI:={ size:=1,bytes:=8,zero:=[.d .nilFn] }
def P9:TI:={ size:=1,bytes:=8,zero:=[.d .nilFn] }
def jag:TI:={ size:=1,bytes:=8,zero:=[.d .nilFn] }
def UZ:TI:={ size:=1,bytes:=8,zero:=[.d .nilFn] }
def jaJ:TI:={ size:=1,bytes:=8,zero:=[.d .nilFn] }
def Pp:TI:={ size:=1,bytes:=8,zero:=[.d .nilFn] }
def QF:TI:={ size:=1,bytes:=8,zero:=[.d .nilFn] }
def Ni:TI:={ size:=1,bytes:=8,zero:=[.d .nilFn] }
def VP:TI:={ size:=1,bytes:=8,zero:=[.d .nilFn] }
def Uz:TI:={ size:=1,bytes:=8,zero:=[.d .nilFn] }
def jbz:TI:={ agg:=true,size:=6,bytes:=112,zero:=[.d (.bool false),.nl,.nl,.d (.bool false),.nl,.nl],arr:=some (2,37) }
def MS:TI:={ agg:=true,size:=6,bytes:=112,zero:=[.d (.bool false),.nl,.nl,.d (.bool false),.nl,.nl],arr:=some (2,37) }
def Rf:TI:={ size:=1,bytes:=8,zero:=[.d .nilFn] }
def jaT:TI:={ size:=1,bytes:=8,zero:=[.d .nilFn] }
def jjm:TI:={ size:=1,bytes:=8,zero:=[.d .nilFn] }
def PZ:TI:={ size:=1,bytes:=8,zero:=[.d .nilFn] }
def RT:TI:={ size:=1,bytes:=8,zero:=[.d .nilFn] }
def Vp:TI:={ size:=1,bytes:=8,zero:=[.d .nilFn] }
def PR:TI:={ size:=1,bytes:=8,zero:=[.d .nilFn] }
def La:TI:={ size:=1,bytes:=8,zero:=[.d .nilFn] }
def YT:TI:={ size:=1,bytes:=8,zero:=[.d .nilFn] }
def V9:TI:={ size:=1,bytes:=8,zero:=[.d .nilFn] }
def Vv:TI:={ size:=1,bytes:=8,zero:=[.d .nilFn] }
def jbR:TI:={ size:=1,bytes:=24,zero:=[.nl],sl:=some 213 }
def Lh:TI:={ size:=1,bytes:=8,zero:=[.d .nilFn] }
def jgX:TI:={ size:=1,bytes:=24,zero:=[.nl],sl:=some 149 }
def SD:TI:={ size:=1,bytes:=8,zero:=[.d .nilFn] }
def TW:TI:={ size:=1,bytes:=8,zero:=[.d .nilFn] }
def T6:TI:={ size:=1,bytes:=8,zero:=[.d .nilFn] }
def K0:TI:={ size:=1,bytes:=8,zero:=[.d .nilFn] }
def jjn:TI:={ size:=1,bytes:=8,zero:=[.d (.int .i64 0)] }
def Qa:TI:={ size:=1,bytes:=8,zero:=[.d .nilFn] }
def jaU:TI:={ size:=1,bytes:=8,zero:=[.d .nilFn] }
def ME:TI:={ size:=1,bytes:=8,zero:=[.d .nilFn] }
def jbj:TI:={ size:=1,bytes:=8,zero:=[.d .nilFn] }
def jbA:TI:={ size:=1,bytes:=8,zero:=[.d .nilFn] }
def jdT:TI:={ size:=1,bytes:=4,zero:=[.d (.int .u32 0)] }
def Qw:TI:={ size:=1,bytes:=8,zero:=[.d .nilFn] }
def MK:TI:={ size:=1,bytes:=8,zero:=[.d .nilFn] }
def Ui:TI:={ size:=1,bytes:=8,zero:=[.d .nilFn] }
def Pr:TI:={ size:=1,bytes:=8,zero:=[.d .nilFn] }
def PF:TI:={ size:=1,bytes:=8,zero:=[.d .nilFn] }
def MW:TI:={ size:=1,bytes:=8,zero:=[.d .nilFn] }
def LA:TI:={ size:=1,bytes:=8,zero:=[.d .nilFn] }
def jbv:TI:={ size:=1,bytes:=8,zero:=[.d .nilFn] }
def Lj:TI:={ size:=1,bytes:=8,zero:=[.d .nilFn] }
def Nh:TI:={ size:=1,bytes:=8,zero:=[.d .nilFn] }
def MC:TI:={ size:=1,bytes:=8,zero:=[.d .nilFn] }
def Sl:TI:={ size:=1,bytes:=8,zero:=[.d .nilFn] }
def Tz:TI:={ size:=1,bytes:=8,zero:=[.d .nilFn] }
def RX:TI:={ size:=1,bytes:=8,zero:=[.d .nilFn] }
def Q7:TI:={ size:=1,bytes:=8,zero:=[.d .nilFn] }
def jdM:TI:={ agg:=true,size:=4,bytes:=32,zero:=[.d (.int .i64 0),.d (.int .i64 0),.d (.int .i64 0),.d (.int .i64 0)],arr:=some (2,144) }
def jgC:TI:={ size:=1,bytes:=8,zero:=[.d .nilPtr] }
def jeX:TI:={ size:=1,bytes:=24,zero:=[.nl],sl:=some 244 }
def YJ:TI:={ size:=1,bytes:=8,zero:=[.d .nilFn] }
def Ut:TI:={ size:=1,bytes:=8,zero:=[.d .nilFn] }
def XR:TI:={ size:=1,bytes:=8,zero:=[.d .nilFn] }
def QX:TI:={ size:=1,bytes:=8,zero:=[.d .nilFn] }
def VX:TI:={ size:=1,bytes:=8,zero:=[.d .nilFn] }
def Mu:TI:={ size:=1,bytes:=8,zero:=[.d .nilFn] }
def jje:TI:={ size:=1,bytes:=8,zero:=[.d .nilPtr] }
def Xw:TI:={ size:=1,bytes:=8,zero:=[.d .nilFn] }
def OV:TI:={ size:=1,bytes:=8,zero:=[.d .nilFn] }
def XI:TI:={ size:=1,bytes:=8,zero:=[.d .nilFn] }
def jjo:TI:={ size:=1,bytes:=8,zero:=[.d (.int .u64 0)] }
def Vj:TI:={ size:=1,bytes:=8,zero:=[.d .nilFn] }
def jbX:TI:={ size:=1,bytes:=8,zero:=[.d .nilFn] }
def VY:TI:={ size:=1,bytes:=8,zero:=[.d .nilFn] }
def ON:TI:={ size:=1,bytes:=8,zero:=[.d .nilFn] }
def TN:TI:={ size:=1,bytes:=8,zero:=[.d .nilFn] }
def L5:TI:={ size:=1,bytes:=8,zero:=[.d .nilFn] }
def jdY:TI:={ size:=1,bytes:=24,zero:=[.nl],sl:=some 165 }
def LJ:TI:={ size:=1,bytes:=8,zero:=[.d .nilFn] }
def Lq:TI:={ size:=1,bytes:=8,zero:=[.d .nilFn] }
def So:TI:={ size:=1,bytes:=8,zero:=[.d .nilFn] }
def Qg:TI:={ size:=1,bytes:=8,zero:=[.d .nilFn] }
def MO:TI:={ size:=1,bytes:=8,zero:=[.d .nilFn] }
def Qu:TI:={ size:=1,bytes:=8,zero:=[.d .nilFn] }
def MP:TI:={ agg:=true,size:=2,bytes:=16,zero:=[.d (.int .i64 0),.d (.int .u16 0)],flds:=[(0,3),(1,139)],flat:=true }
def jjl:TI:={ agg:=true,size:=2,bytes:=16,zero:=[.d (.int .i64 0),.d (.int .u16 0)],flds:=[(0,3),(1,139)],flat:=true }
def LG:TI:={ size:=1,bytes:=8,zero:=[.d .nilFn] }
def Ry:TI:={ size:=1,bytes:=24,zero:=[.nl],sl:=some 35 }
def ji7:TI:={ size:=1,bytes:=8,zero:=[.d .nilPtr] }
def Ns:TI:={ size:=1,bytes:=8,zero:=[.d .nilFn] }
def RG:TI:={ size:=1,bytes:=8,zero:=[.d .nilFn] }
def UG:TI:={ size:=1,bytes:=8,zero:=[.d .nilFn] }
def OQ:TI:={ size:=1,bytes:=8,zero:=[.d .nilFn] }
def NJ:TI:={ size:=1,bytes:=8,zero:=[.d .nilFn] }
def Ob:TI:={ size:=1,bytes:=8,zero:=[.d .nilFn] }
def jjh:TI:={ size:=1,bytes:=8,zero:=[.d .nilPtr] }
def Q5:TI:={ size:=1,bytes:=8,zero:=[.d .nilFn] }
def QU:TI:={ size:=1,bytes:=8,zero:=[.d .nilFn] }
def YK:TI:={ agg:=true,size:=4,bytes:=32,zero:=[.d (.int .i64 0),.d (.int .i64 0),.d (.int .i64 0),.d (.int .i64 0)],arr:=some (4,3),flat:=true }
def jdQ:TI:={ agg:=true,size:=32,bytes:=256,zero:=List.replicate 32 (.d (.int .i64 0)),arr:=some (8,286) }
def ZR:TI:={ size:=1,bytes:=8,zero:=[.d .nilFn] }
def L9:TI:={ size:=1,bytes:=8,zero:=[.d .nilFn] }
def SM:TI:={ size:=1,bytes:=8,zero:=[.d .nilFn] }
def Si:TI:={ size:=1,bytes:=8,zero:=[.d .nilFn] }
def Qk:TI:={ size:=1,bytes:=8,zero:=[.d .nilFn] }
def jaP:TI:={ size:=1,bytes:=8,zero:=[.d .nilFn] }
def NO:TI:={ size:=1,bytes:=8,zero:=[.d .nilFn] }
def jbU:TI:={ size:=1,bytes:=8,zero:=[.d .nilFn] }
def KV:TI:={ agg:=true,size:=4,bytes:=40,zero:=[.d .nilPtr,.d .nilPtr,.d .nilPtr,.d (.str ByteArray.empty)],flds:=[(0,17),(1,17),(2,17),(3,9)] }
def T1:TI:={ agg:=true,size:=4,bytes:=40,zero:=[.d .nilPtr,.d .nilPtr,.d .nilPtr,.d (.str ByteArray.empty)],flds:=[(0,17),(1,17),(2,17),(3,9)] }
def RM:TI:={ agg:=true,size:=0,bytes:=0,zero:=[],arr:=some (0,16) }
def MT:TI:={ agg:=true,size:=0,bytes:=0,zero:=[],flds:=[(0,299)] }
def Tr:TI:={ agg:=true,size:=0,bytes:=0,zero:=[],flds:=[(0,299)] }
def K4:TI:={ size:=1,bytes:=1,zero:=[.d (.int .u8 0)] }
def Oi:TI:={ size:=1,bytes:=1,zero:=[.d (.int .u8 0)] }
def P1:TI:={ size:=1,bytes:=8,zero:=[.d .nilFn] }
def PS:TI:={ size:=1,bytes:=8,zero:=[.d .nilPtr] }
def Xl:TI:={ size:=1,bytes:=4,zero:=[.d (.int .i32 0)] }
def YF:TI:={ size:=1,bytes:=4,zero:=[.d (.int .i32 0)] }
def M9:TI:={ agg:=true,size:=11,bytes:=48,zero:=[.d (.int .u64 0),.d (.int .u64 0),.d (.int .u32 0),.d (.int .u8 0),.d (.int .u8 0),.d (.int .u8 0),.d (.int .u8 0),.d .nilFn,.d .nilPtr,.d (.int .i32 0),.d (.int .i32 0)],flds:=[(0,12),(1,12),(2,226),(3,302),(4,5),(5,5),(6,303),(7,304),(8,305),(9,306),(10,307)] }
def UJ:TI:={ agg:=true,size:=11,bytes:=48,zero:=[.d (.int .u64 0),.d (.int .u64 0),.d (.int .u32 0),.d (.int .u8 0),.d (.int .u8 0),.d (.int .u8 0),.d (.int .u8 0),.d .nilFn,.d .nilPtr,.d (.int .i32 0),.d (.int .i32 0)],flds:=[(0,12),(1,12),(2,226),(3,302),(4,5),(5,5),(6,303),(7,304),(8,305),(9,306),(10,307)] }
def Lz:List (Option TI):=[none,some jjk,some jji,some jdf,some Yu,some jeH,some jjq,some jjj,some jjs,some jez,some jjc,some jjp,some ji5,some Ro,some Nr,some jbT,some UK,some S5,some Nn,some jaL,none,some W6,some jdo,some RO,some jjd,some YI,none,some W1,some MH,some SA,some T0,some Yp,some Yo,some Yq,some jb1,some jaO,some jaW,some jcO,some U8,some jai,none,some Zh,some TE,some WB,some jbp,some Pz,some NS,some Rc,some Ml,some L3,some jjb,none,some Ow,some ZP,some Zm,some Wi,some jba,some Te,some UT,some O9,some jgr,some Xe,some WL,some N1,some jec,some Y0,some jhI,some Q2,some LE,some Zt,some VS,some jjr,some Rw,some Nf,some jhK,some W5,some V4,some Zi,some Z6,some Ys,some Vw,some Z7,some Xf,some OX,some N7,some VW,some ZN,none,some Rr,some jaN,some U3,some RK,some V6,some YL,some QC,some QH,some jaV,some ZU,some jbJ,some Oc,some NX,some jja,some jcX,some ji8,some SE,some Ls,some jjg,some Lx,some Mv,some jjf,some Y5,some jdi,some X5,some jfE,some jbl,some RZ,some ZM,some jej,some P2,some Zb,some TT,some Ny,some Ms,none,some P8,some Qz,some Yd,some NW,some MV,some O3,some Ma,some YD,some jbu,some UW,some Wb,none,some Uf,some jaa,some SO,some jbi,some O2,some Y3,some SY,some jdk,some jfx,some ja2,some N8,some jaj,some jhk,some Xi,some jf1,some XL,some jdU,some Ty,some XV,some jeT,some ji9,some Z5,some Qy,some NI,some NP,some ji6,some Sq,some ML,some jaR,some jg0,some L7,some MR,some T3,some jcF,some Zd,some PD,some jfZ,some Xt,some T2,some RP,some MY,some Zu,some N5,some YE,some Su,none,some QK,some Y8,some LV,some WF,some Qs,some P9,some jag,some UZ,some jaJ,some Pp,some QF,some Ni,some VP,some Uz,some jbz,some MS,some Rf,some jaT,some jjm,some PZ,some RT,none,some Vp,some PR,some La,some YT,some V9,none,some Vv,some jbR,some Lh,some jgX,some SD,some TW,some T6,some K0,some jjn,none,some Qa,some jaU,some ME,none,some jbj,some jbA,some jdT,some Qw,some MK,some Ui,some Pr,some PF,some MW,some LA,some jbv,some Lj,none,some Nh,some MC,some Sl,some Tz,some RX,some Q7,some jdM,some jgC,some jeX,some YJ,some Ut,some XR,some QX,some VX,some Mu,some jje,some Xw,some OV,some XI,some jjo,some Vj,some jbX,some VY,some ON,some TN,some L5,some jdY,some LJ,some Lq,some So,some Qg,some MO,some Qu,some MP,some jjl,none,some LG,some Ry,some ji7,some Ns,some RG,some UG,some OQ,some NJ,some Ob,some jjh,none,some Q5,some QU,some YK,some jdQ,none,some ZR,some L9,some SM,some Si,some Qk,some jaP,some NO,some jbU,some KV,some T1,some RM,some MT,some Tr,some K4,some Oi,some P1,some PS,some Xl,some YF,some M9,some UJ,none]
def tb:At:=fun t=>(Lz[t]?).join
def JO(P:Program):Nat→List (Option TI)→Bool
 |_,[]=>true
 |k,o::r=>(match o with|some i=>Jh P k i|none=>true)&&JO P (k+1) r
theorem WT{P:Program}: ∀(l:List (Option TI)) (k:Nat),JO P k l=true→ ∀t i,l[t]? =some (some i)→Jh P (k+t) i=true
 |[],_,_,_,_,h=>by simp at h
 |o::r,k,hb,0,i,h=>by
  simp only[List.getElem?_cons_zero,Option.some.injEq]at h;subst h;unfold JO at hb
  simpa using (Ax _ _ ▸ hb).1
 |o::r,k,hb,t+1,i,h=>by
  unfold JO at hb;have:=WT r (k+1) (by simpa using (Ax _ _ ▸ hb).2) t i (by simpa using h)
  rwa [show k+1+t=k+(t+1) by omega]at this
theorem jaA:JO Tryz.prog 0 Lz=true:=by kernel_rfl
theorem Ad:Ba Tryz.prog tb:=fun t i h=>by
 have:=WT Lz 0 jaA t i (by unfold tb at h;cases hx:Lz[t]? <;>simp[hx]at h;rw[h])
 rwa [Nat.zero_add]at this
theorem mixed:Tryz.prog.follows .mixedOrders=true:=by kernel_rfl
@[simp]theorem tb_1:tb 1=some { size:=1,bytes:=8,zero:=[.d .nilFn] }:=rfl
@[simp]theorem tb_2:tb 2=some { size:=1,bytes:=8,zero:=[.d (.int .i64 0)] }:=rfl
@[simp]theorem tb_3:tb 3=some { size:=1,bytes:=8,zero:=[.d (.int .i64 0)] }:=rfl
@[simp]theorem tb_4:tb 4=some { size:=1,bytes:=1,zero:=[.d (.bool false)] }:=rfl
@[simp]theorem tb_5:tb 5=some { size:=1,bytes:=1,zero:=[.d (.int .u8 0)] }:=rfl
@[simp]theorem tb_6:tb 6=some { size:=1,bytes:=1,zero:=[.d (.int .u8 0)] }:=rfl
@[simp]theorem tb_7:tb 7=some { agg:=true,size:=4,bytes:=24,zero:=[.d (.int .i64 0),.d (.int .i64 0),.d (.bool false),.d (.int .u8 0)],flds:=[(0,2),(1,3),(2,4),(3,6)],flat:=true }:=rfl
@[simp]theorem tb_8:tb 8=some { agg:=true,size:=4,bytes:=24,zero:=[.d (.int .i64 0),.d (.int .i64 0),.d (.bool false),.d (.int .u8 0)],flds:=[(0,2),(1,3),(2,4),(3,6)],flat:=true }:=rfl
@[simp]theorem tb_9:tb 9=some { size:=1,bytes:=16,zero:=[.d (.str ByteArray.empty)] }:=rfl
@[simp]theorem tb_10:tb 10=some { size:=1,bytes:=16,zero:=[.d (.str ByteArray.empty)] }:=rfl
@[simp]theorem tb_11:tb 11=some { size:=1,bytes:=16,zero:=[.d (.str ByteArray.empty)] }:=rfl
@[simp]theorem tb_12:tb 12=some { size:=1,bytes:=8,zero:=[.d (.int .u64 0)] }:=rfl
@[simp]theorem tb_13:tb 13=some { agg:=true,size:=2,bytes:=24,zero:=[.d (.str ByteArray.empty),.d (.int .u64 0)],flds:=[(0,9),(1,12)] }:=rfl
@[simp]theorem tb_14:tb 14=some { agg:=true,size:=2,bytes:=24,zero:=[.d (.str ByteArray.empty),.d (.int .u64 0)],flds:=[(0,9),(1,12)] }:=rfl
@[simp]theorem tb_15:tb 15=some { size:=1,bytes:=8,zero:=[.d .nilPtr] }:=rfl
@[simp]theorem tb_16:tb 16=some { size:=1,bytes:=8,zero:=[.d .nilPtr] }:=rfl
@[simp]theorem tb_17:tb 17=some { size:=1,bytes:=8,zero:=[.d .nilPtr] }:=rfl
@[simp]theorem tb_18:tb 18=some { agg:=true,size:=1,bytes:=8,zero:=[.d .nilPtr],flds:=[(0,17)] }:=rfl
@[simp]theorem tb_19:tb 19=some { agg:=true,size:=1,bytes:=8,zero:=[.d .nilPtr],flds:=[(0,17)] }:=rfl
@[simp]theorem tb_21:tb 21=some { size:=1,bytes:=4,zero:=[.d (.int .i32 0)] }:=rfl
@[simp]theorem tb_22:tb 22=some { size:=1,bytes:=24,zero:=[.nl],sl:=some 39 }:=rfl
@[simp]theorem tb_23:tb 23=some { size:=1,bytes:=8,zero:=[.d .nilFn] }:=rfl
@[simp]theorem tb_24:tb 24=some { size:=1,bytes:=8,zero:=[.d .nilFn] }:=rfl
@[simp]theorem tb_25:tb 25=some { size:=1,bytes:=24,zero:=[.nl],sl:=some 60 }:=rfl
@[simp]theorem tb_27:tb 27=some { size:=1,bytes:=8,zero:=[.d .nilFn] }:=rfl
@[simp]theorem tb_28:tb 28=some { size:=1,bytes:=8,zero:=[.d .nilFn] }:=rfl
@[simp]theorem tb_29:tb 29=some { size:=1,bytes:=8,zero:=[.d .nilFn] }:=rfl
@[simp]theorem tb_30:tb 30=some { size:=1,bytes:=8,zero:=[.d .nilFn] }:=rfl
@[simp]theorem tb_31:tb 31=some { size:=1,bytes:=24,zero:=[.nl],sl:=some 3 }:=rfl
@[simp]theorem tb_32:tb 32=some { size:=1,bytes:=24,zero:=[.nl],sl:=some 139 }:=rfl
@[simp]theorem tb_33:tb 33=some { size:=1,bytes:=24,zero:=[.nl],sl:=some 139 }:=rfl
@[simp]theorem tb_34:tb 34=some { agg:=true,size:=2,bytes:=32,zero:=[.d (.bool false),.nl],flds:=[(0,4),(1,33)] }:=rfl
@[simp]theorem tb_35:tb 35=some { agg:=true,size:=2,bytes:=32,zero:=[.d (.bool false),.nl],flds:=[(0,4),(1,33)] }:=rfl
@[simp]theorem tb_36:tb 36=some { agg:=true,size:=3,bytes:=56,zero:=[.d (.bool false),.nl,.nl],flds:=[(0,35),(2,33)] }:=rfl
@[simp]theorem tb_37:tb 37=some { agg:=true,size:=3,bytes:=56,zero:=[.d (.bool false),.nl,.nl],flds:=[(0,35),(2,33)] }:=rfl
@[simp]theorem tb_38:tb 38=some { agg:=true,size:=5,bytes:=88,zero:=[.d (.int .i64 0),.nl,.d (.bool false),.nl,.nl],flds:=[(0,3),(1,31),(2,37)] }:=rfl
@[simp]theorem tb_39:tb 39=some { agg:=true,size:=5,bytes:=88,zero:=[.d (.int .i64 0),.nl,.d (.bool false),.nl,.nl],flds:=[(0,3),(1,31),(2,37)] }:=rfl
@[simp]theorem tb_41:tb 41=some { size:=1,bytes:=8,zero:=[.d .nilFn] }:=rfl
@[simp]theorem tb_42:tb 42=some { size:=1,bytes:=8,zero:=[.d .nilFn] }:=rfl
@[simp]theorem tb_43:tb 43=some { size:=1,bytes:=8,zero:=[.d .nilFn] }:=rfl
@[simp]theorem tb_44:tb 44=some { size:=1,bytes:=8,zero:=[.d .nilFn] }:=rfl
@[simp]theorem tb_45:tb 45=some { size:=1,bytes:=8,zero:=[.d .nilFn] }:=rfl
@[simp]theorem tb_46:tb 46=some { size:=1,bytes:=8,zero:=[.d .nilFn] }:=rfl
@[simp]theorem tb_47:tb 47=some { size:=1,bytes:=8,zero:=[.d .nilFn] }:=rfl
@[simp]theorem tb_48:tb 48=some { size:=1,bytes:=24,zero:=[.nl],sl:=some 86 }:=rfl
@[simp]theorem tb_49:tb 49=some { size:=1,bytes:=8,zero:=[.d .nilFn] }:=rfl
@[simp]theorem tb_50:tb 50=some { size:=1,bytes:=8,zero:=[.d (.int .i64 0)] }:=rfl
@[simp]theorem tb_52:tb 52=some { size:=1,bytes:=8,zero:=[.d .nilFn] }:=rfl
@[simp]theorem tb_53:tb 53=some { size:=1,bytes:=8,zero:=[.d .nilFn] }:=rfl
@[simp]theorem tb_54:tb 54=some { size:=1,bytes:=8,zero:=[.d .nilFn] }:=rfl
@[simp]theorem tb_55:tb 55=some { size:=1,bytes:=8,zero:=[.d .nilFn] }:=rfl
@[simp]theorem tb_56:tb 56=some { size:=1,bytes:=8,zero:=[.d .nilFn] }:=rfl
@[simp]theorem tb_57:tb 57=some { size:=1,bytes:=8,zero:=[.d .nilFn] }:=rfl
@[simp]theorem tb_58:tb 58=some { size:=1,bytes:=8,zero:=[.d .nilFn] }:=rfl
@[simp]theorem tb_59:tb 59=some { agg:=true,size:=2,bytes:=32,zero:=[.d (.int .i64 0),.nl],flds:=[(0,3),(1,31)] }:=rfl
@[simp]theorem tb_60:tb 60=some { agg:=true,size:=2,bytes:=32,zero:=[.d (.int .i64 0),.nl],flds:=[(0,3),(1,31)] }:=rfl
@[simp]theorem tb_61:tb 61=some { size:=1,bytes:=24,zero:=[.nl],sl:=some 64 }:=rfl
@[simp]theorem tb_62:tb 62=some { size:=1,bytes:=8,zero:=[.d .nilFn] }:=rfl
@[simp]theorem tb_63:tb 63=some { agg:=true,size:=6,bytes:=112,zero:=[.d (.int .i64 0),.nl,.d (.bool false),.nl,.nl,.nl],flds:=[(0,39),(5,25)] }:=rfl
@[simp]theorem tb_64:tb 64=some { agg:=true,size:=6,bytes:=112,zero:=[.d (.int .i64 0),.nl,.d (.bool false),.nl,.nl,.nl],flds:=[(0,39),(5,25)] }:=rfl
@[simp]theorem tb_65:tb 65=some { size:=1,bytes:=8,zero:=[.d .nilFn] }:=rfl
@[simp]theorem tb_66:tb 66=some { size:=1,bytes:=24,zero:=[.nl],sl:=some 69 }:=rfl
@[simp]theorem tb_67:tb 67=some { size:=1,bytes:=8,zero:=[.d .nilFn] }:=rfl
@[simp]theorem tb_68:tb 68=some { agg:=true,size:=6,bytes:=112,zero:=[.d (.int .i64 0),.nl,.d (.bool false),.nl,.nl,.nl],flds:=[(0,39),(5,25)] }:=rfl
@[simp]theorem tb_69:tb 69=some { agg:=true,size:=6,bytes:=112,zero:=[.d (.int .i64 0),.nl,.d (.bool false),.nl,.nl,.nl],flds:=[(0,39),(5,25)] }:=rfl
@[simp]theorem tb_70:tb 70=some { size:=1,bytes:=8,zero:=[.d .nilFn] }:=rfl
@[simp]theorem tb_71:tb 71=some { size:=1,bytes:=8,zero:=[.d .nilFn] }:=rfl
@[simp]theorem tb_72:tb 72=some { size:=1,bytes:=8,zero:=[.d .nilFn] }:=rfl
@[simp]theorem tb_73:tb 73=some { size:=1,bytes:=8,zero:=[.d .nilFn] }:=rfl
@[simp]theorem tb_74:tb 74=some { size:=1,bytes:=24,zero:=[.nl],sl:=some 155 }:=rfl
@[simp]theorem tb_75:tb 75=some { size:=1,bytes:=8,zero:=[.d .nilFn] }:=rfl
@[simp]theorem tb_76:tb 76=some { agg:=true,size:=6,bytes:=104,zero:=[.d (.str ByteArray.empty),.nl,.nl,.nl,.d (.int .i64 0),.d .nilFn],flds:=[(0,9),(1,74),(2,74),(3,74),(4,3),(5,75)] }:=rfl
@[simp]theorem tb_77:tb 77=some { agg:=true,size:=6,bytes:=104,zero:=[.d (.str ByteArray.empty),.nl,.nl,.nl,.d (.int .i64 0),.d .nilFn],flds:=[(0,9),(1,74),(2,74),(3,74),(4,3),(5,75)] }:=rfl
@[simp]theorem tb_78:tb 78=some { size:=1,bytes:=8,zero:=[.d .nilFn] }:=rfl
@[simp]theorem tb_79:tb 79=some { size:=1,bytes:=24,zero:=[.nl],sl:=some 177 }:=rfl
@[simp]theorem tb_80:tb 80=some { agg:=true,size:=4,bytes:=88,zero:=[.d (.str ByteArray.empty),.nl,.nl,.nl],flds:=[(0,9),(1,79),(2,79),(3,79)] }:=rfl
@[simp]theorem tb_81:tb 81=some { agg:=true,size:=4,bytes:=88,zero:=[.d (.str ByteArray.empty),.nl,.nl,.nl],flds:=[(0,9),(1,79),(2,79),(3,79)] }:=rfl
@[simp]theorem tb_82:tb 82=some { size:=1,bytes:=8,zero:=[.d .nilFn] }:=rfl
@[simp]theorem tb_83:tb 83=some { size:=1,bytes:=24,zero:=[.nl],sl:=some 37 }:=rfl
@[simp]theorem tb_84:tb 84=some { size:=1,bytes:=8,zero:=[.d .nilFn] }:=rfl
@[simp]theorem tb_85:tb 85=some { agg:=true,size:=6,bytes:=112,zero:=[.d (.bool false),.nl,.nl,.d (.bool false),.nl,.nl],flds:=[(0,37),(3,37)] }:=rfl
@[simp]theorem tb_86:tb 86=some { agg:=true,size:=6,bytes:=112,zero:=[.d (.bool false),.nl,.nl,.d (.bool false),.nl,.nl],flds:=[(0,37),(3,37)] }:=rfl
@[simp]theorem tb_88:tb 88=some { size:=1,bytes:=8,zero:=[.d .nilFn] }:=rfl
@[simp]theorem tb_89:tb 89=some { size:=1,bytes:=8,zero:=[.d .nilFn] }:=rfl
@[simp]theorem tb_90:tb 90=some { size:=1,bytes:=8,zero:=[.d .nilFn] }:=rfl
@[simp]theorem tb_91:tb 91=some { agg:=true,size:=3,bytes:=40,zero:=[.d (.int .i64 0),.nl,.d (.int .i64 0)],flds:=[(0,3),(1,31),(2,3)] }:=rfl
@[simp]theorem tb_92:tb 92=some { agg:=true,size:=3,bytes:=40,zero:=[.d (.int .i64 0),.nl,.d (.int .i64 0)],flds:=[(0,3),(1,31),(2,3)] }:=rfl
@[simp]theorem tb_93:tb 93=some { size:=1,bytes:=8,zero:=[.d .nilFn] }:=rfl
@[simp]theorem tb_94:tb 94=some { size:=1,bytes:=8,zero:=[.d .nilFn] }:=rfl
@[simp]theorem tb_95:tb 95=some { size:=1,bytes:=8,zero:=[.d .nilFn] }:=rfl
@[simp]theorem tb_96:tb 96=some { size:=1,bytes:=8,zero:=[.d .nilFn] }:=rfl
@[simp]theorem tb_97:tb 97=some { size:=1,bytes:=8,zero:=[.d (.int .u64 0)] }:=rfl
@[simp]theorem tb_98:tb 98=some { size:=1,bytes:=8,zero:=[.d .nilFn] }:=rfl
@[simp]theorem tb_99:tb 99=some { size:=1,bytes:=8,zero:=[.d .nilFn] }:=rfl
@[simp]theorem tb_100:tb 100=some { size:=1,bytes:=8,zero:=[.d .nilFn] }:=rfl
@[simp]theorem tb_101:tb 101=some { size:=1,bytes:=8,zero:=[.d .nilFn] }:=rfl
@[simp]theorem tb_102:tb 102=some { size:=1,bytes:=8,zero:=[.d .nilFn] }:=rfl
@[simp]theorem tb_103:tb 103=some { size:=1,bytes:=8,zero:=[.d .nilFn] }:=rfl
@[simp]theorem tb_104:tb 104=some { size:=1,bytes:=8,zero:=[.d .nilFn] }:=rfl
@[simp]theorem tb_105:tb 105=some { size:=1,bytes:=8,zero:=[.d .nilFn] }:=rfl
@[simp]theorem tb_106:tb 106=some { size:=1,bytes:=8,zero:=[.d .nilFn] }:=rfl
@[simp]theorem tb_107:tb 107=some { size:=1,bytes:=8,zero:=[.d .nilFn] }:=rfl
@[simp]theorem tb_108:tb 108=some { size:=1,bytes:=8,zero:=[.d .nilFn] }:=rfl
@[simp]theorem tb_109:tb 109=some { size:=1,bytes:=8,zero:=[.d .nilFn] }:=rfl
@[simp]theorem tb_110:tb 110=some { size:=1,bytes:=8,zero:=[.d .nilFn] }:=rfl
@[simp]theorem tb_111:tb 111=some { size:=1,bytes:=2,zero:=[.d (.int .i16 0)] }:=rfl
@[simp]theorem tb_112:tb 112=some { agg:=true,size:=26,bytes:=52,zero:=List.replicate 26 (.d (.int .i16 0)),arr:=some (26,111),flat:=true }:=rfl
@[simp]theorem tb_113:tb 113=some { agg:=true,size:=26,bytes:=52,zero:=List.replicate 26 (.d (.int .i16 0)),arr:=some (26,111),flat:=true }:=rfl
@[simp]theorem tb_114:tb 114=some { size:=1,bytes:=8,zero:=[.d .nilFn] }:=rfl
@[simp]theorem tb_115:tb 115=some { size:=1,bytes:=8,zero:=[.d .nilFn] }:=rfl
@[simp]theorem tb_116:tb 116=some { agg:=true,size:=1,bytes:=8,zero:=[.d .nilFn],flds:=[(0,72)] }:=rfl
@[simp]theorem tb_117:tb 117=some { agg:=true,size:=1,bytes:=8,zero:=[.d .nilFn],flds:=[(0,72)] }:=rfl
@[simp]theorem tb_118:tb 118=some { size:=1,bytes:=8,zero:=[.d .nilFn] }:=rfl
@[simp]theorem tb_119:tb 119=some { size:=1,bytes:=8,zero:=[.d .nilFn] }:=rfl
@[simp]theorem tb_120:tb 120=some { size:=1,bytes:=8,zero:=[.d .nilFn] }:=rfl
@[simp]theorem tb_121:tb 121=some { size:=1,bytes:=8,zero:=[.d .nilFn] }:=rfl
@[simp]theorem tb_122:tb 122=some { size:=1,bytes:=8,zero:=[.d .nilFn] }:=rfl
@[simp]theorem tb_124:tb 124=some { size:=1,bytes:=8,zero:=[.d .nilFn] }:=rfl
@[simp]theorem tb_125:tb 125=some { size:=1,bytes:=8,zero:=[.d .nilFn] }:=rfl
@[simp]theorem tb_126:tb 126=some { size:=1,bytes:=8,zero:=[.d .nilFn] }:=rfl
@[simp]theorem tb_127:tb 127=some { size:=1,bytes:=8,zero:=[.d .nilFn] }:=rfl
@[simp]theorem tb_128:tb 128=some { size:=1,bytes:=8,zero:=[.d .nilFn] }:=rfl
@[simp]theorem tb_129:tb 129=some { size:=1,bytes:=8,zero:=[.d .nilFn] }:=rfl
@[simp]theorem tb_130:tb 130=some { size:=1,bytes:=8,zero:=[.d .nilFn] }:=rfl
@[simp]theorem tb_131:tb 131=some { size:=1,bytes:=8,zero:=[.d .nilFn] }:=rfl
@[simp]theorem tb_132:tb 132=some { size:=1,bytes:=8,zero:=[.d .nilFn] }:=rfl
@[simp]theorem tb_133:tb 133=some { size:=1,bytes:=8,zero:=[.d .nilFn] }:=rfl
@[simp]theorem tb_134:tb 134=some { size:=1,bytes:=8,zero:=[.d .nilFn] }:=rfl
@[simp]theorem tb_136:tb 136=some { size:=1,bytes:=8,zero:=[.d .nilFn] }:=rfl
@[simp]theorem tb_137:tb 137=some { size:=1,bytes:=8,zero:=[.d .nilFn] }:=rfl
@[simp]theorem tb_138:tb 138=some { size:=1,bytes:=8,zero:=[.d .nilFn] }:=rfl
@[simp]theorem tb_139:tb 139=some { size:=1,bytes:=2,zero:=[.d (.int .u16 0)] }:=rfl
@[simp]theorem tb_140:tb 140=some { size:=1,bytes:=8,zero:=[.d .nilFn] }:=rfl
@[simp]theorem tb_141:tb 141=some { size:=1,bytes:=24,zero:=[.nl],sl:=some 144 }:=rfl
@[simp]theorem tb_142:tb 142=some { size:=1,bytes:=8,zero:=[.d .nilFn] }:=rfl
@[simp]theorem tb_143:tb 143=some { agg:=true,size:=2,bytes:=16,zero:=[.d (.int .i64 0),.d (.int .i64 0)],arr:=some (2,3),flat:=true }:=rfl
@[simp]theorem tb_144:tb 144=some { agg:=true,size:=2,bytes:=16,zero:=[.d (.int .i64 0),.d (.int .i64 0)],arr:=some (2,3),flat:=true }:=rfl
@[simp]theorem tb_145:tb 145=some { size:=1,bytes:=8,zero:=[.d .nilFn] }:=rfl
@[simp]theorem tb_146:tb 146=some { size:=1,bytes:=8,zero:=[.d .nilFn] }:=rfl
@[simp]theorem tb_147:tb 147=some { size:=1,bytes:=8,zero:=[.d .nilFn] }:=rfl
@[simp]theorem tb_148:tb 148=some { agg:=true,size:=26,bytes:=208,zero:=List.replicate 26 (.d (.int .i64 0)),arr:=some (26,3),flat:=true }:=rfl
@[simp]theorem tb_149:tb 149=some { agg:=true,size:=2,bytes:=16,zero:=[.d (.int .i64 0),.d (.int .i64 0)],arr:=some (2,3),flat:=true }:=rfl
@[simp]theorem tb_150:tb 150=some { agg:=true,size:=52,bytes:=416,zero:=List.replicate 52 (.d (.int .i64 0)),arr:=some (26,149) }:=rfl
@[simp]theorem tb_151:tb 151=some { agg:=true,size:=78,bytes:=624,zero:=List.replicate 78 (.d (.int .i64 0)),flds:=[(0,148),(26,150)] }:=rfl
@[simp]theorem tb_152:tb 152=some { agg:=true,size:=78,bytes:=624,zero:=List.replicate 78 (.d (.int .i64 0)),flds:=[(0,148),(26,150)] }:=rfl
@[simp]theorem tb_153:tb 153=some { size:=1,bytes:=8,zero:=[.d .nilFn] }:=rfl
@[simp]theorem tb_154:tb 154=some { agg:=true,size:=3,bytes:=32,zero:=[.d (.int .i64 0),.d (.str ByteArray.empty),.d (.int .i64 0)],flds:=[(0,3),(1,9),(2,3)] }:=rfl
@[simp]theorem tb_155:tb 155=some { agg:=true,size:=3,bytes:=32,zero:=[.d (.int .i64 0),.d (.str ByteArray.empty),.d (.int .i64 0)],flds:=[(0,3),(1,9),(2,3)] }:=rfl
@[simp]theorem tb_156:tb 156=some { size:=1,bytes:=8,zero:=[.d .nilFn] }:=rfl
@[simp]theorem tb_157:tb 157=some { size:=1,bytes:=8,zero:=[.d .nilFn] }:=rfl
@[simp]theorem tb_158:tb 158=some { size:=1,bytes:=8,zero:=[.d .nilFn] }:=rfl
@[simp]theorem tb_159:tb 159=some { size:=1,bytes:=8,zero:=[.d .nilFn] }:=rfl
@[simp]theorem tb_160:tb 160=some { size:=1,bytes:=8,zero:=[.d .nilFn] }:=rfl
@[simp]theorem tb_161:tb 161=some { size:=1,bytes:=8,zero:=[.d (.int .u64 0)] }:=rfl
@[simp]theorem tb_162:tb 162=some { size:=1,bytes:=8,zero:=[.d .nilFn] }:=rfl
@[simp]theorem tb_163:tb 163=some { size:=1,bytes:=8,zero:=[.d .nilFn] }:=rfl
@[simp]theorem tb_164:tb 164=some { agg:=true,size:=2,bytes:=16,zero:=[.d (.int .i64 0),.d (.int .i64 0)],flds:=[(0,3),(1,3)],flat:=true }:=rfl
@[simp]theorem tb_165:tb 165=some { agg:=true,size:=2,bytes:=16,zero:=[.d (.int .i64 0),.d (.int .i64 0)],flds:=[(0,3),(1,3)],flat:=true }:=rfl
@[simp]theorem tb_166:tb 166=some { size:=1,bytes:=8,zero:=[.d .nilFn] }:=rfl
@[simp]theorem tb_167:tb 167=some { size:=1,bytes:=8,zero:=[.d .nilFn] }:=rfl
@[simp]theorem tb_168:tb 168=some { size:=1,bytes:=8,zero:=[.d .nilFn] }:=rfl
@[simp]theorem tb_169:tb 169=some { size:=1,bytes:=24,zero:=[.nl],sl:=some 172 }:=rfl
@[simp]theorem tb_170:tb 170=some { size:=1,bytes:=8,zero:=[.d .nilFn] }:=rfl
@[simp]theorem tb_171:tb 171=some { agg:=true,size:=5,bytes:=72,zero:=[.d (.int .i64 0),.d (.int .i64 0),.d (.bool false),.nl,.nl],flds:=[(0,3),(1,3),(2,37)] }:=rfl
@[simp]theorem tb_172:tb 172=some { agg:=true,size:=5,bytes:=72,zero:=[.d (.int .i64 0),.d (.int .i64 0),.d (.bool false),.nl,.nl],flds:=[(0,3),(1,3),(2,37)] }:=rfl
@[simp]theorem tb_173:tb 173=some { size:=1,bytes:=8,zero:=[.d .nilFn] }:=rfl
@[simp]theorem tb_174:tb 174=some { size:=1,bytes:=8,zero:=[.d .nilFn] }:=rfl
@[simp]theorem tb_175:tb 175=some { size:=1,bytes:=8,zero:=[.d .nilFn] }:=rfl
@[simp]theorem tb_176:tb 176=some { agg:=true,size:=4,bytes:=40,zero:=[.d (.int .i64 0),.d (.str ByteArray.empty),.d (.bool false),.d (.int .i64 0)],flds:=[(0,3),(1,9),(2,4),(3,3)] }:=rfl
@[simp]theorem tb_177:tb 177=some { agg:=true,size:=4,bytes:=40,zero:=[.d (.int .i64 0),.d (.str ByteArray.empty),.d (.bool false),.d (.int .i64 0)],flds:=[(0,3),(1,9),(2,4),(3,3)] }:=rfl
@[simp]theorem tb_178:tb 178=some { size:=1,bytes:=8,zero:=[.d .nilFn] }:=rfl
@[simp]theorem tb_179:tb 179=some { size:=1,bytes:=24,zero:=[.nl],sl:=some 31 }:=rfl
@[simp]theorem tb_180:tb 180=some { size:=1,bytes:=8,zero:=[.d .nilFn] }:=rfl
@[simp]theorem tb_182:tb 182=some { size:=1,bytes:=8,zero:=[.d .nilFn] }:=rfl
@[simp]theorem tb_183:tb 183=some { size:=1,bytes:=8,zero:=[.d .nilFn] }:=rfl
@[simp]theorem tb_184:tb 184=some { size:=1,bytes:=8,zero:=[.d .nilFn] }:=rfl
@[simp]theorem tb_185:tb 185=some { size:=1,bytes:=8,zero:=[.d .nilFn] }:=rfl
@[simp]theorem tb_186:tb 186=some { size:=1,bytes:=8,zero:=[.d .nilFn] }:=rfl
@[simp]theorem tb_187:tb 187=some { size:=1,bytes:=8,zero:=[.d .nilFn] }:=rfl
@[simp]theorem tb_188:tb 188=some { size:=1,bytes:=8,zero:=[.d .nilFn] }:=rfl
@[simp]theorem tb_189:tb 189=some { size:=1,bytes:=8,zero:=[.d .nilFn] }:=rfl
@[simp]theorem tb_190:tb 190=some { size:=1,bytes:=8,zero:=[.d .nilFn] }:=rfl
@[simp]theorem tb_191:tb 191=some { size:=1,bytes:=8,zero:=[.d .nilFn] }:=rfl
@[simp]theorem tb_192:tb 192=some { size:=1,bytes:=8,zero:=[.d .nilFn] }:=rfl
@[simp]theorem tb_193:tb 193=some { size:=1,bytes:=8,zero:=[.d .nilFn] }:=rfl
@[simp]theorem tb_194:tb 194=some { size:=1,bytes:=8,zero:=[.d .nilFn] }:=rfl
@[simp]theorem tb_195:tb 195=some { size:=1,bytes:=8,zero:=[.d .nilFn] }:=rfl
@[simp]theorem tb_196:tb 196=some { agg:=true,size:=6,bytes:=112,zero:=[.d (.bool false),.nl,.nl,.d (.bool false),.nl,.nl],arr:=some (2,37) }:=rfl
@[simp]theorem tb_197:tb 197=some { agg:=true,size:=6,bytes:=112,zero:=[.d (.bool false),.nl,.nl,.d (.bool false),.nl,.nl],arr:=some (2,37) }:=rfl
@[simp]theorem tb_198:tb 198=some { size:=1,bytes:=8,zero:=[.d .nilFn] }:=rfl
@[simp]theorem tb_199:tb 199=some { size:=1,bytes:=8,zero:=[.d .nilFn] }:=rfl
@[simp]theorem tb_200:tb 200=some { size:=1,bytes:=8,zero:=[.d .nilFn] }:=rfl
@[simp]theorem tb_201:tb 201=some { size:=1,bytes:=8,zero:=[.d .nilFn] }:=rfl
@[simp]theorem tb_202:tb 202=some { size:=1,bytes:=8,zero:=[.d .nilFn] }:=rfl
@[simp]theorem tb_204:tb 204=some { size:=1,bytes:=8,zero:=[.d .nilFn] }:=rfl
@[simp]theorem tb_205:tb 205=some { size:=1,bytes:=8,zero:=[.d .nilFn] }:=rfl
@[simp]theorem tb_206:tb 206=some { size:=1,bytes:=8,zero:=[.d .nilFn] }:=rfl
@[simp]theorem tb_207:tb 207=some { size:=1,bytes:=8,zero:=[.d .nilFn] }:=rfl
@[simp]theorem tb_208:tb 208=some { size:=1,bytes:=8,zero:=[.d .nilFn] }:=rfl
@[simp]theorem tb_210:tb 210=some { size:=1,bytes:=8,zero:=[.d .nilFn] }:=rfl
@[simp]theorem tb_211:tb 211=some { size:=1,bytes:=24,zero:=[.nl],sl:=some 213 }:=rfl
@[simp]theorem tb_212:tb 212=some { size:=1,bytes:=8,zero:=[.d .nilFn] }:=rfl
@[simp]theorem tb_213:tb 213=some { size:=1,bytes:=24,zero:=[.nl],sl:=some 149 }:=rfl
@[simp]theorem tb_214:tb 214=some { size:=1,bytes:=8,zero:=[.d .nilFn] }:=rfl
@[simp]theorem tb_215:tb 215=some { size:=1,bytes:=8,zero:=[.d .nilFn] }:=rfl
@[simp]theorem tb_216:tb 216=some { size:=1,bytes:=8,zero:=[.d .nilFn] }:=rfl
@[simp]theorem tb_217:tb 217=some { size:=1,bytes:=8,zero:=[.d .nilFn] }:=rfl
@[simp]theorem tb_218:tb 218=some { size:=1,bytes:=8,zero:=[.d (.int .i64 0)] }:=rfl
@[simp]theorem tb_220:tb 220=some { size:=1,bytes:=8,zero:=[.d .nilFn] }:=rfl
@[simp]theorem tb_221:tb 221=some { size:=1,bytes:=8,zero:=[.d .nilFn] }:=rfl
@[simp]theorem tb_222:tb 222=some { size:=1,bytes:=8,zero:=[.d .nilFn] }:=rfl
@[simp]theorem tb_224:tb 224=some { size:=1,bytes:=8,zero:=[.d .nilFn] }:=rfl
@[simp]theorem tb_225:tb 225=some { size:=1,bytes:=8,zero:=[.d .nilFn] }:=rfl
@[simp]theorem tb_226:tb 226=some { size:=1,bytes:=4,zero:=[.d (.int .u32 0)] }:=rfl
@[simp]theorem tb_227:tb 227=some { size:=1,bytes:=8,zero:=[.d .nilFn] }:=rfl
@[simp]theorem tb_228:tb 228=some { size:=1,bytes:=8,zero:=[.d .nilFn] }:=rfl
@[simp]theorem tb_229:tb 229=some { size:=1,bytes:=8,zero:=[.d .nilFn] }:=rfl
@[simp]theorem tb_230:tb 230=some { size:=1,bytes:=8,zero:=[.d .nilFn] }:=rfl
@[simp]theorem tb_231:tb 231=some { size:=1,bytes:=8,zero:=[.d .nilFn] }:=rfl
@[simp]theorem tb_232:tb 232=some { size:=1,bytes:=8,zero:=[.d .nilFn] }:=rfl
@[simp]theorem tb_233:tb 233=some { size:=1,bytes:=8,zero:=[.d .nilFn] }:=rfl
@[simp]theorem tb_234:tb 234=some { size:=1,bytes:=8,zero:=[.d .nilFn] }:=rfl
@[simp]theorem tb_235:tb 235=some { size:=1,bytes:=8,zero:=[.d .nilFn] }:=rfl
@[simp]theorem tb_237:tb 237=some { size:=1,bytes:=8,zero:=[.d .nilFn] }:=rfl
@[simp]theorem tb_238:tb 238=some { size:=1,bytes:=8,zero:=[.d .nilFn] }:=rfl
@[simp]theorem tb_239:tb 239=some { size:=1,bytes:=8,zero:=[.d .nilFn] }:=rfl
@[simp]theorem tb_240:tb 240=some { size:=1,bytes:=8,zero:=[.d .nilFn] }:=rfl
@[simp]theorem tb_241:tb 241=some { size:=1,bytes:=8,zero:=[.d .nilFn] }:=rfl
@[simp]theorem tb_242:tb 242=some { size:=1,bytes:=8,zero:=[.d .nilFn] }:=rfl
@[simp]theorem tb_243:tb 243=some { agg:=true,size:=4,bytes:=32,zero:=[.d (.int .i64 0),.d (.int .i64 0),.d (.int .i64 0),.d (.int .i64 0)],arr:=some (2,144) }:=rfl
@[simp]theorem tb_244:tb 244=some { size:=1,bytes:=8,zero:=[.d .nilPtr] }:=rfl
@[simp]theorem tb_245:tb 245=some { size:=1,bytes:=24,zero:=[.nl],sl:=some 244 }:=rfl
@[simp]theorem tb_246:tb 246=some { size:=1,bytes:=8,zero:=[.d .nilFn] }:=rfl
@[simp]theorem tb_247:tb 247=some { size:=1,bytes:=8,zero:=[.d .nilFn] }:=rfl
@[simp]theorem tb_248:tb 248=some { size:=1,bytes:=8,zero:=[.d .nilFn] }:=rfl
@[simp]theorem tb_249:tb 249=some { size:=1,bytes:=8,zero:=[.d .nilFn] }:=rfl
@[simp]theorem tb_250:tb 250=some { size:=1,bytes:=8,zero:=[.d .nilFn] }:=rfl
@[simp]theorem tb_251:tb 251=some { size:=1,bytes:=8,zero:=[.d .nilFn] }:=rfl
@[simp]theorem tb_252:tb 252=some { size:=1,bytes:=8,zero:=[.d .nilPtr] }:=rfl
@[simp]theorem tb_253:tb 253=some { size:=1,bytes:=8,zero:=[.d .nilFn] }:=rfl
@[simp]theorem tb_254:tb 254=some { size:=1,bytes:=8,zero:=[.d .nilFn] }:=rfl
@[simp]theorem tb_255:tb 255=some { size:=1,bytes:=8,zero:=[.d .nilFn] }:=rfl
@[simp]theorem tb_256:tb 256=some { size:=1,bytes:=8,zero:=[.d (.int .u64 0)] }:=rfl
@[simp]theorem tb_257:tb 257=some { size:=1,bytes:=8,zero:=[.d .nilFn] }:=rfl
@[simp]theorem tb_258:tb 258=some { size:=1,bytes:=8,zero:=[.d .nilFn] }:=rfl
@[simp]theorem tb_259:tb 259=some { size:=1,bytes:=8,zero:=[.d .nilFn] }:=rfl
@[simp]theorem tb_260:tb 260=some { size:=1,bytes:=8,zero:=[.d .nilFn] }:=rfl
@[simp]theorem tb_261:tb 261=some { size:=1,bytes:=8,zero:=[.d .nilFn] }:=rfl
@[simp]theorem tb_262:tb 262=some { size:=1,bytes:=8,zero:=[.d .nilFn] }:=rfl
@[simp]theorem tb_263:tb 263=some { size:=1,bytes:=24,zero:=[.nl],sl:=some 165 }:=rfl
@[simp]theorem tb_264:tb 264=some { size:=1,bytes:=8,zero:=[.d .nilFn] }:=rfl
@[simp]theorem tb_265:tb 265=some { size:=1,bytes:=8,zero:=[.d .nilFn] }:=rfl
@[simp]theorem tb_266:tb 266=some { size:=1,bytes:=8,zero:=[.d .nilFn] }:=rfl
@[simp]theorem tb_267:tb 267=some { size:=1,bytes:=8,zero:=[.d .nilFn] }:=rfl
@[simp]theorem tb_268:tb 268=some { size:=1,bytes:=8,zero:=[.d .nilFn] }:=rfl
@[simp]theorem tb_269:tb 269=some { size:=1,bytes:=8,zero:=[.d .nilFn] }:=rfl
@[simp]theorem tb_270:tb 270=some { agg:=true,size:=2,bytes:=16,zero:=[.d (.int .i64 0),.d (.int .u16 0)],flds:=[(0,3),(1,139)],flat:=true }:=rfl
@[simp]theorem tb_271:tb 271=some { agg:=true,size:=2,bytes:=16,zero:=[.d (.int .i64 0),.d (.int .u16 0)],flds:=[(0,3),(1,139)],flat:=true }:=rfl
@[simp]theorem tb_273:tb 273=some { size:=1,bytes:=8,zero:=[.d .nilFn] }:=rfl
@[simp]theorem tb_274:tb 274=some { size:=1,bytes:=24,zero:=[.nl],sl:=some 35 }:=rfl
@[simp]theorem tb_275:tb 275=some { size:=1,bytes:=8,zero:=[.d .nilPtr] }:=rfl
@[simp]theorem tb_276:tb 276=some { size:=1,bytes:=8,zero:=[.d .nilFn] }:=rfl
@[simp]theorem tb_277:tb 277=some { size:=1,bytes:=8,zero:=[.d .nilFn] }:=rfl
@[simp]theorem tb_278:tb 278=some { size:=1,bytes:=8,zero:=[.d .nilFn] }:=rfl
@[simp]theorem tb_279:tb 279=some { size:=1,bytes:=8,zero:=[.d .nilFn] }:=rfl
@[simp]theorem tb_280:tb 280=some { size:=1,bytes:=8,zero:=[.d .nilFn] }:=rfl
@[simp]theorem tb_281:tb 281=some { size:=1,bytes:=8,zero:=[.d .nilFn] }:=rfl
@[simp]theorem tb_282:tb 282=some { size:=1,bytes:=8,zero:=[.d .nilPtr] }:=rfl
@[simp]theorem tb_284:tb 284=some { size:=1,bytes:=8,zero:=[.d .nilFn] }:=rfl
@[simp]theorem tb_285:tb 285=some { size:=1,bytes:=8,zero:=[.d .nilFn] }:=rfl
@[simp]theorem tb_286:tb 286=some { agg:=true,size:=4,bytes:=32,zero:=[.d (.int .i64 0),.d (.int .i64 0),.d (.int .i64 0),.d (.int .i64 0)],arr:=some (4,3),flat:=true }:=rfl
@[simp]theorem tb_287:tb 287=some { agg:=true,size:=32,bytes:=256,zero:=List.replicate 32 (.d (.int .i64 0)),arr:=some (8,286) }:=rfl
@[simp]theorem tb_289:tb 289=some { size:=1,bytes:=8,zero:=[.d .nilFn] }:=rfl
@[simp]theorem tb_290:tb 290=some { size:=1,bytes:=8,zero:=[.d .nilFn] }:=rfl
@[simp]theorem tb_291:tb 291=some { size:=1,bytes:=8,zero:=[.d .nilFn] }:=rfl
@[simp]theorem tb_292:tb 292=some { size:=1,bytes:=8,zero:=[.d .nilFn] }:=rfl
@[simp]theorem tb_293:tb 293=some { size:=1,bytes:=8,zero:=[.d .nilFn] }:=rfl
@[simp]theorem tb_294:tb 294=some { size:=1,bytes:=8,zero:=[.d .nilFn] }:=rfl
@[simp]theorem tb_295:tb 295=some { size:=1,bytes:=8,zero:=[.d .nilFn] }:=rfl
@[simp]theorem tb_296:tb 296=some { size:=1,bytes:=8,zero:=[.d .nilFn] }:=rfl
@[simp]theorem tb_297:tb 297=some { agg:=true,size:=4,bytes:=40,zero:=[.d .nilPtr,.d .nilPtr,.d .nilPtr,.d (.str ByteArray.empty)],flds:=[(0,17),(1,17),(2,17),(3,9)] }:=rfl
@[simp]theorem tb_298:tb 298=some { agg:=true,size:=4,bytes:=40,zero:=[.d .nilPtr,.d .nilPtr,.d .nilPtr,.d (.str ByteArray.empty)],flds:=[(0,17),(1,17),(2,17),(3,9)] }:=rfl
@[simp]theorem tb_299:tb 299=some { agg:=true,size:=0,bytes:=0,zero:=[],arr:=some (0,16) }:=rfl
@[simp]theorem tb_300:tb 300=some { agg:=true,size:=0,bytes:=0,zero:=[],flds:=[(0,299)] }:=rfl
@[simp]theorem tb_301:tb 301=some { agg:=true,size:=0,bytes:=0,zero:=[],flds:=[(0,299)] }:=rfl
@[simp]theorem tb_302:tb 302=some { size:=1,bytes:=1,zero:=[.d (.int .u8 0)] }:=rfl
@[simp]theorem tb_303:tb 303=some { size:=1,bytes:=1,zero:=[.d (.int .u8 0)] }:=rfl
@[simp]theorem tb_304:tb 304=some { size:=1,bytes:=8,zero:=[.d .nilFn] }:=rfl
@[simp]theorem tb_305:tb 305=some { size:=1,bytes:=8,zero:=[.d .nilPtr] }:=rfl
@[simp]theorem tb_306:tb 306=some { size:=1,bytes:=4,zero:=[.d (.int .i32 0)] }:=rfl
@[simp]theorem tb_307:tb 307=some { size:=1,bytes:=4,zero:=[.d (.int .i32 0)] }:=rfl
@[simp]theorem tb_308:tb 308=some { agg:=true,size:=11,bytes:=48,zero:=[.d (.int .u64 0),.d (.int .u64 0),.d (.int .u32 0),.d (.int .u8 0),.d (.int .u8 0),.d (.int .u8 0),.d (.int .u8 0),.d .nilFn,.d .nilPtr,.d (.int .i32 0),.d (.int .i32 0)],flds:=[(0,12),(1,12),(2,226),(3,302),(4,5),(5,5),(6,303),(7,304),(8,305),(9,306),(10,307)] }:=rfl
@[simp]theorem tb_309:tb 309=some { agg:=true,size:=11,bytes:=48,zero:=[.d (.int .u64 0),.d (.int .u64 0),.d (.int .u32 0),.d (.int .u8 0),.d (.int .u8 0),.d (.int .u8 0),.d (.int .u8 0),.d .nilFn,.d .nilPtr,.d (.int .i32 0),.d (.int .i32 0)],flds:=[(0,12),(1,12),(2,226),(3,302),(4,5),(5,5),(6,303),(7,304),(8,305),(9,306),(10,307)] }:=rfl
end Go.Va
