/- a part of the proof -/
import Derived.Test.YtpklcnmcllbbjaaGreatDoorJab
import Derived.Test.YtpklcnmcllbbjaaGreatDoorProg
set_option linter.all false
set_option maxRecDepth 20000
namespace Go.Va
open Go.Proofs
def Re:TI:={ size:=1,bytes:=8,zero:=[.d .nilFn] }
def Oa:TI:={ size:=1,bytes:=8,zero:=[.d (.int .i64 0)] }
def Pg:TI:={ size:=1,bytes:=8,zero:=[.d (.int .i64 0)] }
def Ri:TI:={ size:=1,bytes:=1,zero:=[.d (.bool false)] }
def O2:TI:={ size:=1,bytes:=1,zero:=[.d (.int .u8 0)] }
def N1:TI:={ size:=1,bytes:=1,zero:=[.d (.int .u8 0)] }
def Pv:TI:={ agg:=true,size:=4,bytes:=24,zero:=[.d (.int .i64 0),.d (.int .i64 0),.d (.bool false),.d (.int .u8 0)],flds:=[(0,2),(1,3),(2,4),(3,6)],flat:=true }
def OY:TI:={ agg:=true,size:=4,bytes:=24,zero:=[.d (.int .i64 0),.d (.int .i64 0),.d (.bool false),.d (.int .u8 0)],flds:=[(0,2),(1,3),(2,4),(3,6)],flat:=true }
def Pm:TI:={ size:=1,bytes:=16,zero:=[.d (.str ByteArray.empty)] }
def R5:TI:={ size:=1,bytes:=16,zero:=[.d (.str ByteArray.empty)] }
def Ps:TI:={ size:=1,bytes:=16,zero:=[.d (.str ByteArray.empty)] }
def R8:TI:={ size:=1,bytes:=8,zero:=[.d (.int .u64 0)] }
def TA:TI:={ size:=1,bytes:=16,zero:=[.d (.lit .nilIface)] }
def T5:TI:={ size:=1,bytes:=4,zero:=[.d (.int .i32 0)] }
def NY:TI:={ size:=1,bytes:=24,zero:=[.nl],sl:=some 44 }
def Se:TI:={ size:=1,bytes:=24,zero:=[.nl],sl:=some 47 }
def Pe:TI:={ agg:=true,size:=2,bytes:=48,zero:=[.nl,.nl],flds:=[(0,22),(1,23)] }
def La:TI:={ size:=1,bytes:=24,zero:=[.nl],sl:=some 9 }
def PI:TI:={ size:=1,bytes:=8,zero:=[.d .nilFn] }
def N7:TI:={ size:=1,bytes:=8,zero:=[.d (.int .i64 0)] }
def ST:TI:={ size:=1,bytes:=24,zero:=[.nl],sl:=some 3 }
def P7:TI:={ size:=1,bytes:=24,zero:=[.nl],sl:=some 231 }
def NS:TI:={ size:=1,bytes:=24,zero:=[.nl],sl:=some 231 }
def Pp:TI:={ agg:=true,size:=2,bytes:=32,zero:=[.d (.bool false),.nl],flds:=[(0,4),(1,36)] }
def OG:TI:={ agg:=true,size:=3,bytes:=56,zero:=[.d (.bool false),.nl,.nl],flds:=[(0,38),(2,36)] }
def P6:TI:={ agg:=true,size:=5,bytes:=88,zero:=[.d (.int .i64 0),.nl,.d (.bool false),.nl,.nl],flds:=[(0,3),(1,34),(2,40)] }
def Sn:TI:={ agg:=true,size:=7,bytes:=120,zero:=[.d (.int .i64 0),.nl,.d (.bool false),.nl,.nl,.d (.int .i64 0),.nl],flds:=[(0,42),(5,3),(6,34)] }
def Km:TI:={ size:=1,bytes:=8,zero:=[.d .nilFn] }
def KS:TI:={ agg:=true,size:=2,bytes:=32,zero:=[.d (.int .i64 0),.nl],flds:=[(0,3),(1,34)] }
def PA:TI:={ size:=1,bytes:=24,zero:=[.nl],sl:=some 74 }
def LC:TI:={ size:=1,bytes:=24,zero:=[.nl],sl:=some 42 }
def Kg:TI:={ agg:=true,size:=2,bytes:=48,zero:=[.nl,.nl],flds:=[(0,48),(1,49)] }
def PE:TI:={ size:=1,bytes:=8,zero:=[.d .nilPtr] }
def Kq:TI:={ size:=1,bytes:=24,zero:=[.nl],sl:=some 5 }
def Sq:TI:={ agg:=true,size:=2,bytes:=32,zero:=[.d .nilPtr,.nl],flds:=[(0,61),(1,62)] }
def OE:TI:={ size:=1,bytes:=16,zero:=[.d (.lit .nilIface)] }
def OR:TI:={ agg:=true,size:=6,bytes:=104,zero:=[.d (.int .i64 0),.d (.str ByteArray.empty),.nl,.d (.bool false),.nl,.nl],flds:=[(0,3),(1,9),(2,34),(3,40)] }
def L0:TI:={ size:=1,bytes:=8,zero:=[.d .nilFn] }
def Ms:TI:={ size:=1,bytes:=8,zero:=[.d .nilFn] }
def jm2:TI:={ size:=1,bytes:=24,zero:=[.nl],sl:=some 4 }
def jnh:TI:={ size:=1,bytes:=8,zero:=[.d (.lit (.map none))],mp:=true,mpi:=true }
def Na:TI:={ size:=1,bytes:=8,zero:=[.d .nilFn] }
def ND:TI:={ size:=1,bytes:=8,zero:=[.d .nilFn] }
def KQ:TI:={ size:=1,bytes:=8,zero:=[.d (.lit (.map none))],mp:=true }
def K6:TI:={ size:=1,bytes:=8,zero:=[.d .nilFn] }
def MW:TI:={ agg:=true,size:=2,bytes:=16,zero:=[.d (.int .i64 0),.d (.int .i64 0)],flds:=[(0,3),(1,3)],flat:=true }
def KI:TI:={ size:=1,bytes:=24,zero:=[.nl],sl:=some 132 }
def Nr:TI:={ agg:=true,size:=8,bytes:=144,zero:=[.d (.int .i64 0),.nl,.d (.bool false),.nl,.nl,.d (.int .i64 0),.nl,.nl],flds:=[(0,44),(7,23)] }
def Ka:TI:={ size:=1,bytes:=24,zero:=[.nl],sl:=some 138 }
def Pz:TI:={ agg:=true,size:=6,bytes:=112,zero:=[.d (.int .i64 0),.nl,.d (.bool false),.nl,.nl,.nl],flds:=[(0,42),(5,23)] }
def MC:TI:={ size:=1,bytes:=8,zero:=[.d (.int .u64 0)] }
def Ot:TI:={ size:=1,bytes:=24,zero:=[.nl],sl:=some 267 }
def Pi:TI:={ size:=1,bytes:=8,zero:=[.d .nilFn] }
def P0:TI:={ agg:=true,size:=6,bytes:=104,zero:=[.d (.str ByteArray.empty),.nl,.nl,.nl,.d (.int .i64 0),.d .nilFn],flds:=[(0,9),(1,152),(2,152),(3,152),(4,3),(5,153)] }
def RJ:TI:={ size:=1,bytes:=24,zero:=[.nl],sl:=some 248 }
def L7:TI:={ agg:=true,size:=4,bytes:=88,zero:=[.d (.str ByteArray.empty),.nl,.nl,.nl],flds:=[(0,9),(1,163),(2,163),(3,163)] }
def LS:TI:={ size:=1,bytes:=8,zero:=[.d (.int .u64 0)] }
def Pq:TI:={ size:=1,bytes:=24,zero:=[.nl],sl:=some 188 }
def OD:TI:={ agg:=true,size:=7,bytes:=136,zero:=[.d (.int .i64 0),.nl,.d (.bool false),.nl,.nl,.nl,.nl],flds:=[(0,42),(5,34),(6,23)] }
def Ny:TI:={ agg:=true,size:=1,bytes:=8,zero:=[.d .nilFn],flds:=[(0,78)] }
def O9:TI:={ size:=1,bytes:=8,zero:=[.d .nilFn] }
def Ow:TI:={ size:=1,bytes:=8,zero:=[.d .nilFn] }
def NW:TI:={ size:=1,bytes:=8,zero:=[.d .nilFn] }
def jnz:TI:={ size:=1,bytes:=8,zero:=[.d .nilFn] }
def O4:TI:={ size:=1,bytes:=8,zero:=[.d (.int .i64 0)] }
def Kx:TI:={ size:=1,bytes:=4,zero:=[.d (.int .u32 0)] }
def Pa:TI:={ size:=1,bytes:=2,zero:=[.d (.int .u16 0)] }
def LP:TI:={ size:=1,bytes:=24,zero:=[.nl],sl:=some 121 }
def LZ:TI:={ size:=1,bytes:=24,zero:=[.nl],sl:=some 243 }
def PO:TI:={ agg:=true,size:=6,bytes:=112,zero:=[.d (.int .i64 0),.nl,.d (.bool false),.nl,.nl,.nl],flds:=[(0,42),(5,23)] }
def Lb:TI:={ size:=1,bytes:=24,zero:=[.nl],sl:=some 245 }
def LI:TI:={ size:=1,bytes:=24,zero:=[.nl],sl:=some 317 }
def Ke:TI:={ agg:=true,size:=4,bytes:=40,zero:=[.d (.int .i64 0),.d (.str ByteArray.empty),.d (.bool false),.d (.int .i64 0)],flds:=[(0,3),(1,9),(2,4),(3,3)] }
def jmA:TI:={ size:=1,bytes:=2,zero:=[.d (.int .i16 0)] }
def RI:TI:={ agg:=true,size:=26,bytes:=52,zero:=List.replicate 26 (.d (.int .i16 0)),arr:=some (26,249),flat:=true }
def NF:TI:={ size:=1,bytes:=24,zero:=[.nl],sl:=some 256 }
def K2:TI:={ agg:=true,size:=2,bytes:=16,zero:=[.d (.int .i64 0),.d (.int .i64 0)],arr:=some (2,3),flat:=true }
def O7:TI:={ agg:=true,size:=2,bytes:=16,zero:=[.d (.int .i64 0),.d (.int .i64 0)],arr:=some (2,3),flat:=true }
def Kr:TI:={ size:=1,bytes:=8,zero:=[.d .nilFn] }
def MN:TI:={ agg:=true,size:=26,bytes:=208,zero:=List.replicate 26 (.d (.int .i64 0)),arr:=some (26,3),flat:=true }
def Mb:TI:={ agg:=true,size:=2,bytes:=16,zero:=[.d (.int .i64 0),.d (.int .i64 0)],arr:=some (2,3),flat:=true }
def O0:TI:={ agg:=true,size:=52,bytes:=416,zero:=List.replicate 52 (.d (.int .i64 0)),arr:=some (26,261) }
def O5:TI:={ agg:=true,size:=78,bytes:=624,zero:=List.replicate 78 (.d (.int .i64 0)),flds:=[(0,260),(26,262)] }
def jnY:TI:={ agg:=true,size:=3,bytes:=32,zero:=[.d (.int .i64 0),.d (.str ByteArray.empty),.d (.int .i64 0)],flds:=[(0,3),(1,9),(2,3)] }
def Mw:TI:={ size:=1,bytes:=8,zero:=[.d .nilFn] }
def jnS:TI:={ size:=1,bytes:=8,zero:=[.d .nilPtr] }
def LG:TI:={ size:=1,bytes:=8,zero:=[.d .nilPtr] }
def LQ:TI:={ agg:=true,size:=6,bytes:=96,zero:=[.nl,.nl,.nl,.d (.int .i64 0),.d (.int .i64 0),.d (.int .i64 0)],flds:=[(0,26),(1,34),(2,26),(3,3),(4,3),(5,30)] }
def Mq:TI:={ agg:=true,size:=2,bytes:=16,zero:=[.d (.int .i64 0),.d (.int .u16 0)],flds:=[(0,3),(1,231)],flat:=true }
def OS:TI:={ size:=1,bytes:=8,zero:=[.d .nilFn] }
def Pn:TI:={ size:=1,bytes:=24,zero:=[.nl],sl:=some 34 }
def Nw:TI:={ agg:=true,size:=2,bytes:=32,zero:=[.d (.int .i64 0),.nl],flds:=[(0,3),(1,34)] }
def Lr:TI:={ size:=1,bytes:=24,zero:=[.nl],sl:=some 335 }
def LW:TI:={ size:=1,bytes:=24,zero:=[.nl],sl:=some 261 }
def KY:TI:={ size:=1,bytes:=24,zero:=[.nl],sl:=some 364 }
def M8:TI:={ agg:=true,size:=5,bytes:=72,zero:=[.d (.int .i64 0),.d (.int .i64 0),.d (.bool false),.nl,.nl],flds:=[(0,3),(1,3),(2,40)] }
def I9:List (Option TI):=[none,some Re,some Oa,some Pg,some Ri,some O2,some N1,some Pv,some OY,some Pm,some R5,some Ps,some R8,none,none,none,none,none,none,none,some TA,some T5,some NY,some Se,none,some Pe,some La,none,none,some PI,some N7,none,none,none,some ST,some P7,some NS,none,some Pp,none,some OG,none,some P6,none,some Sn,some Km,none,some KS,some PA,some LC,none,some Kg,none,none,none,none,none,none,none,none,none,some PE,some Kq,none,some Sq,none,none,some OE,none,none,none,none,none,none,some OR,none,none,none,some L0,none,none,none,none,none,none,some Ms,some jm2,none,none,some jnh,none,none,none,some Na,none,some ND,some KQ,none,none,none,none,none,none,some K6,none,none,none,none,none,none,none,none,none,none,none,none,none,none,none,none,none,some MW,none,none,none,none,none,none,none,some KI,none,none,some Nr,none,none,some Ka,none,none,some Pz,none,none,some MC,none,none,none,none,none,none,none,none,none,none,some Ot,some Pi,none,some P0,none,none,none,none,none,none,none,some RJ,none,some L7,none,none,none,none,none,none,none,some LS,none,none,none,none,none,none,none,none,none,none,none,some Pq,none,none,some OD,none,some Ny,none,none,none,some O9,some Ow,some NW,none,none,some jnz,none,some O4,none,none,none,none,none,none,some Kx,none,none,none,none,none,none,none,none,none,none,none,none,none,none,none,none,none,none,none,none,none,none,some Pa,none,none,none,some LP,none,none,none,some LZ,none,none,none,some PO,some Lb,some LI,none,none,some Ke,some jmA,none,some RI,none,some NF,none,some K2,some O7,none,none,some Kr,some MN,some Mb,some O0,none,some O5,none,none,some jnY,some Mw,none,none,none,none,none,none,none,some jnS,none,none,none,none,some LG,none,some LQ,none,none,none,none,none,none,none,none,none,none,none,none,some Mq,none,none,none,none,none,none,none,none,none,none,none,none,none,none,some OS,none,none,some Pn,none,none,some Nw,none,none,none,none,none,none,none,none,none,none,none,none,none,none,none,some Lr,none,some LW,none,none,none,none,none,none,none,none,none,none,none,none,none,none,none,none,none,none,none,none,none,none,none,none,none,some KY,none,none,some M8]
def tb:AH:=fun t=>(I9[t]?).join
def H1(P:Program):Nat→List (Option TI)→Bool
 |_,[]=>true
 |k,o::r=>(match o with|some i=>HB P k i|none=>true)&&H1 P (k+1) r
theorem PH{P:Program}: ∀(l:List (Option TI)) (k:Nat),H1 P k l=true→ ∀t i,l[t]? =some (some i)→HB P (k+t) i=true
 |[],_,_,_,_,h=>by simp at h
 |o::r,k,hb,0,i,h=>by
  simp only[List.getElem?_cons_zero,Option.some.injEq]at h;subst h;unfold H1 at hb
  simpa using (AR _ _ ▸ hb).1
 |o::r,k,hb,t+1,i,h=>by
  unfold H1 at hb;have:=PH r (k+1) (by simpa using (AR _ _ ▸ hb).2) t i (by simpa using h)
  rwa [show k+1+t=k+(t+1) by omega]at this
theorem jea:H1 Tryz.prog 0 I9=true:=by kernel_rfl
theorem Ak:A5 Tryz.prog tb:=fun t i h=>by
 have:=PH I9 0 jea t i (by unfold tb at h;cases hx:I9[t]? <;>simp[hx]at h;rw[h])
 rwa [Nat.zero_add]at this
theorem mixed:Tryz.prog.follows .mixedOrders=true:=by kernel_rfl
@[simp]theorem tb_1:tb 1=some { size:=1,bytes:=8,zero:=[.d .nilFn] }:=rfl
@[simp]theorem tb_2:tb 2=some { size:=1,bytes:=8,zero:=[.d (.int .i64 0)] }:=rfl
@[simp]theorem tb_3:tb 3=some { size:=1,bytes:=8,zero:=[.d (.int .i64 0)] }:=rfl
@[simp]theorem tb_4:tb 4=some { size:=1,bytes:=1,zero:=[.d (.bool false)] }:=rfl
@[simp]theorem tb_5:tb 5=some { size:=1,bytes:=1,zero:=[.d (.int .u8 0)] }:=rfl
@[simp]theorem tb_6:tb 6=some { size:=1,bytes:=1,zero:=[.d (.int .u8 0)] }:=rfl
@[simp]theorem tb_7:tb 7=some { agg:=true,size:=4,bytes:=24,zero:=[.d (.int .i64 0),.d (.int .i64 0),.d (.bool false),.d (.int .u8 0)],flds:=[(0,2),(1,3),(2,4),(3,6)],flat:=true }:=rfl
@[simp]theorem tb_8:tb 8=some { agg:=true,size:=4,bytes:=24,zero:=[.d (.int .i64 0),.d (.int .i64 0),.d (.bool false),.d (.int .u8 0)],flds:=[(0,2),(1,3),(2,4),(3,6)],flat:=true }:=rfl
@[simp]theorem tb_9:tb 9=some { size:=1,bytes:=16,zero:=[.d (.str ByteArray.empty)] }:=rfl
@[simp]theorem tb_10:tb 10=some { size:=1,bytes:=16,zero:=[.d (.str ByteArray.empty)] }:=rfl
@[simp]theorem tb_11:tb 11=some { size:=1,bytes:=16,zero:=[.d (.str ByteArray.empty)] }:=rfl
@[simp]theorem tb_12:tb 12=some { size:=1,bytes:=8,zero:=[.d (.int .u64 0)] }:=rfl
@[simp]theorem tb_20:tb 20=some { size:=1,bytes:=16,zero:=[.d (.lit .nilIface)] }:=rfl
@[simp]theorem tb_21:tb 21=some { size:=1,bytes:=4,zero:=[.d (.int .i32 0)] }:=rfl
@[simp]theorem tb_22:tb 22=some { size:=1,bytes:=24,zero:=[.nl],sl:=some 44 }:=rfl
@[simp]theorem tb_23:tb 23=some { size:=1,bytes:=24,zero:=[.nl],sl:=some 47 }:=rfl
@[simp]theorem tb_25:tb 25=some { agg:=true,size:=2,bytes:=48,zero:=[.nl,.nl],flds:=[(0,22),(1,23)] }:=rfl
@[simp]theorem tb_26:tb 26=some { size:=1,bytes:=24,zero:=[.nl],sl:=some 9 }:=rfl
@[simp]theorem tb_29:tb 29=some { size:=1,bytes:=8,zero:=[.d .nilFn] }:=rfl
@[simp]theorem tb_30:tb 30=some { size:=1,bytes:=8,zero:=[.d (.int .i64 0)] }:=rfl
@[simp]theorem tb_34:tb 34=some { size:=1,bytes:=24,zero:=[.nl],sl:=some 3 }:=rfl
@[simp]theorem tb_35:tb 35=some { size:=1,bytes:=24,zero:=[.nl],sl:=some 231 }:=rfl
@[simp]theorem tb_36:tb 36=some { size:=1,bytes:=24,zero:=[.nl],sl:=some 231 }:=rfl
@[simp]theorem tb_38:tb 38=some { agg:=true,size:=2,bytes:=32,zero:=[.d (.bool false),.nl],flds:=[(0,4),(1,36)] }:=rfl
@[simp]theorem tb_40:tb 40=some { agg:=true,size:=3,bytes:=56,zero:=[.d (.bool false),.nl,.nl],flds:=[(0,38),(2,36)] }:=rfl
@[simp]theorem tb_42:tb 42=some { agg:=true,size:=5,bytes:=88,zero:=[.d (.int .i64 0),.nl,.d (.bool false),.nl,.nl],flds:=[(0,3),(1,34),(2,40)] }:=rfl
@[simp]theorem tb_44:tb 44=some { agg:=true,size:=7,bytes:=120,zero:=[.d (.int .i64 0),.nl,.d (.bool false),.nl,.nl,.d (.int .i64 0),.nl],flds:=[(0,42),(5,3),(6,34)] }:=rfl
@[simp]theorem tb_45:tb 45=some { size:=1,bytes:=8,zero:=[.d .nilFn] }:=rfl
@[simp]theorem tb_47:tb 47=some { agg:=true,size:=2,bytes:=32,zero:=[.d (.int .i64 0),.nl],flds:=[(0,3),(1,34)] }:=rfl
@[simp]theorem tb_48:tb 48=some { size:=1,bytes:=24,zero:=[.nl],sl:=some 74 }:=rfl
@[simp]theorem tb_49:tb 49=some { size:=1,bytes:=24,zero:=[.nl],sl:=some 42 }:=rfl
@[simp]theorem tb_51:tb 51=some { agg:=true,size:=2,bytes:=48,zero:=[.nl,.nl],flds:=[(0,48),(1,49)] }:=rfl
@[simp]theorem tb_61:tb 61=some { size:=1,bytes:=8,zero:=[.d .nilPtr] }:=rfl
@[simp]theorem tb_62:tb 62=some { size:=1,bytes:=24,zero:=[.nl],sl:=some 5 }:=rfl
@[simp]theorem tb_64:tb 64=some { agg:=true,size:=2,bytes:=32,zero:=[.d .nilPtr,.nl],flds:=[(0,61),(1,62)] }:=rfl
@[simp]theorem tb_67:tb 67=some { size:=1,bytes:=16,zero:=[.d (.lit .nilIface)] }:=rfl
@[simp]theorem tb_74:tb 74=some { agg:=true,size:=6,bytes:=104,zero:=[.d (.int .i64 0),.d (.str ByteArray.empty),.nl,.d (.bool false),.nl,.nl],flds:=[(0,3),(1,9),(2,34),(3,40)] }:=rfl
@[simp]theorem tb_78:tb 78=some { size:=1,bytes:=8,zero:=[.d .nilFn] }:=rfl
@[simp]theorem tb_85:tb 85=some { size:=1,bytes:=8,zero:=[.d .nilFn] }:=rfl
@[simp]theorem tb_86:tb 86=some { size:=1,bytes:=24,zero:=[.nl],sl:=some 4 }:=rfl
@[simp]theorem tb_89:tb 89=some { size:=1,bytes:=8,zero:=[.d (.lit (.map none))],mp:=true,mpi:=true }:=rfl
@[simp]theorem tb_93:tb 93=some { size:=1,bytes:=8,zero:=[.d .nilFn] }:=rfl
@[simp]theorem tb_95:tb 95=some { size:=1,bytes:=8,zero:=[.d .nilFn] }:=rfl
@[simp]theorem tb_96:tb 96=some { size:=1,bytes:=8,zero:=[.d (.lit (.map none))],mp:=true }:=rfl
@[simp]theorem tb_103:tb 103=some { size:=1,bytes:=8,zero:=[.d .nilFn] }:=rfl
@[simp]theorem tb_121:tb 121=some { agg:=true,size:=2,bytes:=16,zero:=[.d (.int .i64 0),.d (.int .i64 0)],flds:=[(0,3),(1,3)],flat:=true }:=rfl
@[simp]theorem tb_129:tb 129=some { size:=1,bytes:=24,zero:=[.nl],sl:=some 132 }:=rfl
@[simp]theorem tb_132:tb 132=some { agg:=true,size:=8,bytes:=144,zero:=[.d (.int .i64 0),.nl,.d (.bool false),.nl,.nl,.d (.int .i64 0),.nl,.nl],flds:=[(0,44),(7,23)] }:=rfl
@[simp]theorem tb_135:tb 135=some { size:=1,bytes:=24,zero:=[.nl],sl:=some 138 }:=rfl
@[simp]theorem tb_138:tb 138=some { agg:=true,size:=6,bytes:=112,zero:=[.d (.int .i64 0),.nl,.d (.bool false),.nl,.nl,.nl],flds:=[(0,42),(5,23)] }:=rfl
@[simp]theorem tb_141:tb 141=some { size:=1,bytes:=8,zero:=[.d (.int .u64 0)] }:=rfl
@[simp]theorem tb_152:tb 152=some { size:=1,bytes:=24,zero:=[.nl],sl:=some 267 }:=rfl
@[simp]theorem tb_153:tb 153=some { size:=1,bytes:=8,zero:=[.d .nilFn] }:=rfl
@[simp]theorem tb_155:tb 155=some { agg:=true,size:=6,bytes:=104,zero:=[.d (.str ByteArray.empty),.nl,.nl,.nl,.d (.int .i64 0),.d .nilFn],flds:=[(0,9),(1,152),(2,152),(3,152),(4,3),(5,153)] }:=rfl
@[simp]theorem tb_163:tb 163=some { size:=1,bytes:=24,zero:=[.nl],sl:=some 248 }:=rfl
@[simp]theorem tb_165:tb 165=some { agg:=true,size:=4,bytes:=88,zero:=[.d (.str ByteArray.empty),.nl,.nl,.nl],flds:=[(0,9),(1,163),(2,163),(3,163)] }:=rfl
@[simp]theorem tb_173:tb 173=some { size:=1,bytes:=8,zero:=[.d (.int .u64 0)] }:=rfl
@[simp]theorem tb_185:tb 185=some { size:=1,bytes:=24,zero:=[.nl],sl:=some 188 }:=rfl
@[simp]theorem tb_188:tb 188=some { agg:=true,size:=7,bytes:=136,zero:=[.d (.int .i64 0),.nl,.d (.bool false),.nl,.nl,.nl,.nl],flds:=[(0,42),(5,34),(6,23)] }:=rfl
@[simp]theorem tb_190:tb 190=some { agg:=true,size:=1,bytes:=8,zero:=[.d .nilFn],flds:=[(0,78)] }:=rfl
@[simp]theorem tb_194:tb 194=some { size:=1,bytes:=8,zero:=[.d .nilFn] }:=rfl
@[simp]theorem tb_195:tb 195=some { size:=1,bytes:=8,zero:=[.d .nilFn] }:=rfl
@[simp]theorem tb_196:tb 196=some { size:=1,bytes:=8,zero:=[.d .nilFn] }:=rfl
@[simp]theorem tb_199:tb 199=some { size:=1,bytes:=8,zero:=[.d .nilFn] }:=rfl
@[simp]theorem tb_201:tb 201=some { size:=1,bytes:=8,zero:=[.d (.int .i64 0)] }:=rfl
@[simp]theorem tb_208:tb 208=some { size:=1,bytes:=4,zero:=[.d (.int .u32 0)] }:=rfl
@[simp]theorem tb_231:tb 231=some { size:=1,bytes:=2,zero:=[.d (.int .u16 0)] }:=rfl
@[simp]theorem tb_235:tb 235=some { size:=1,bytes:=24,zero:=[.nl],sl:=some 121 }:=rfl
@[simp]theorem tb_239:tb 239=some { size:=1,bytes:=24,zero:=[.nl],sl:=some 243 }:=rfl
@[simp]theorem tb_243:tb 243=some { agg:=true,size:=6,bytes:=112,zero:=[.d (.int .i64 0),.nl,.d (.bool false),.nl,.nl,.nl],flds:=[(0,42),(5,23)] }:=rfl
@[simp]theorem tb_244:tb 244=some { size:=1,bytes:=24,zero:=[.nl],sl:=some 245 }:=rfl
@[simp]theorem tb_245:tb 245=some { size:=1,bytes:=24,zero:=[.nl],sl:=some 317 }:=rfl
@[simp]theorem tb_248:tb 248=some { agg:=true,size:=4,bytes:=40,zero:=[.d (.int .i64 0),.d (.str ByteArray.empty),.d (.bool false),.d (.int .i64 0)],flds:=[(0,3),(1,9),(2,4),(3,3)] }:=rfl
@[simp]theorem tb_249:tb 249=some { size:=1,bytes:=2,zero:=[.d (.int .i16 0)] }:=rfl
@[simp]theorem tb_251:tb 251=some { agg:=true,size:=26,bytes:=52,zero:=List.replicate 26 (.d (.int .i16 0)),arr:=some (26,249),flat:=true }:=rfl
@[simp]theorem tb_253:tb 253=some { size:=1,bytes:=24,zero:=[.nl],sl:=some 256 }:=rfl
@[simp]theorem tb_255:tb 255=some { agg:=true,size:=2,bytes:=16,zero:=[.d (.int .i64 0),.d (.int .i64 0)],arr:=some (2,3),flat:=true }:=rfl
@[simp]theorem tb_256:tb 256=some { agg:=true,size:=2,bytes:=16,zero:=[.d (.int .i64 0),.d (.int .i64 0)],arr:=some (2,3),flat:=true }:=rfl
@[simp]theorem tb_259:tb 259=some { size:=1,bytes:=8,zero:=[.d .nilFn] }:=rfl
@[simp]theorem tb_260:tb 260=some { agg:=true,size:=26,bytes:=208,zero:=List.replicate 26 (.d (.int .i64 0)),arr:=some (26,3),flat:=true }:=rfl
@[simp]theorem tb_261:tb 261=some { agg:=true,size:=2,bytes:=16,zero:=[.d (.int .i64 0),.d (.int .i64 0)],arr:=some (2,3),flat:=true }:=rfl
@[simp]theorem tb_262:tb 262=some { agg:=true,size:=52,bytes:=416,zero:=List.replicate 52 (.d (.int .i64 0)),arr:=some (26,261) }:=rfl
@[simp]theorem tb_264:tb 264=some { agg:=true,size:=78,bytes:=624,zero:=List.replicate 78 (.d (.int .i64 0)),flds:=[(0,260),(26,262)] }:=rfl
@[simp]theorem tb_267:tb 267=some { agg:=true,size:=3,bytes:=32,zero:=[.d (.int .i64 0),.d (.str ByteArray.empty),.d (.int .i64 0)],flds:=[(0,3),(1,9),(2,3)] }:=rfl
@[simp]theorem tb_268:tb 268=some { size:=1,bytes:=8,zero:=[.d .nilFn] }:=rfl
@[simp]theorem tb_276:tb 276=some { size:=1,bytes:=8,zero:=[.d .nilPtr] }:=rfl
@[simp]theorem tb_281:tb 281=some { size:=1,bytes:=8,zero:=[.d .nilPtr] }:=rfl
@[simp]theorem tb_283:tb 283=some { agg:=true,size:=6,bytes:=96,zero:=[.nl,.nl,.nl,.d (.int .i64 0),.d (.int .i64 0),.d (.int .i64 0)],flds:=[(0,26),(1,34),(2,26),(3,3),(4,3),(5,30)] }:=rfl
@[simp]theorem tb_296:tb 296=some { agg:=true,size:=2,bytes:=16,zero:=[.d (.int .i64 0),.d (.int .u16 0)],flds:=[(0,3),(1,231)],flat:=true }:=rfl
@[simp]theorem tb_311:tb 311=some { size:=1,bytes:=8,zero:=[.d .nilFn] }:=rfl
@[simp]theorem tb_314:tb 314=some { size:=1,bytes:=24,zero:=[.nl],sl:=some 34 }:=rfl
@[simp]theorem tb_317:tb 317=some { agg:=true,size:=2,bytes:=32,zero:=[.d (.int .i64 0),.nl],flds:=[(0,3),(1,34)] }:=rfl
@[simp]theorem tb_333:tb 333=some { size:=1,bytes:=24,zero:=[.nl],sl:=some 335 }:=rfl
@[simp]theorem tb_335:tb 335=some { size:=1,bytes:=24,zero:=[.nl],sl:=some 261 }:=rfl
@[simp]theorem tb_361:tb 361=some { size:=1,bytes:=24,zero:=[.nl],sl:=some 364 }:=rfl
@[simp]theorem tb_364:tb 364=some { agg:=true,size:=5,bytes:=72,zero:=[.d (.int .i64 0),.d (.int .i64 0),.d (.bool false),.nl,.nl],flds:=[(0,3),(1,3),(2,40)] }:=rfl
end Go.Va
