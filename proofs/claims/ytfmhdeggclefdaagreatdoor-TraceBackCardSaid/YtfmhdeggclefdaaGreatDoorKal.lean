/- a part of the proof -/
import Derived.Test.YtfmhdeggclefdaaGreatDoorKab
import Derived.Test.YtfmhdeggclefdaaGreatDoorProg
set_option linter.all false
set_option maxRecDepth 20000
namespace Go.Va
open Go.Proofs
def Re:TI:={ size:=1,bytes:=8,zero:=[.d .nilFn] }
def Oa:TI:={ size:=1,bytes:=8,zero:=[.d (.int .i64 0)] }
def Pg:TI:={ size:=1,bytes:=8,zero:=[.d (.int .i64 0)] }
def Ri:TI:={ size:=1,bytes:=1,zero:=[.d (.bool false)] }
def O2:TI:={ size:=1,bytes:=1,zero:=[.d (.int .u8 0)] }
def N1:TI:={ size:=1,bytes:=1,zero:=[.d (.int .u8 0)] }
def Pv:TI:={ agg:=true,size:=4,bytes:=24,zero:=[.d (.int .i64 0),.d (.int .i64 0),.d (.bool false),.d (.int .u8 0)],flds:=[(0,2),(1,3),(2,4),(3,6)],flat:=true }
def OY:TI:={ agg:=true,size:=4,bytes:=24,zero:=[.d (.int .i64 0),.d (.int .i64 0),.d (.bool false),.d (.int .u8 0)],flds:=[(0,2),(1,3),(2,4),(3,6)],flat:=true }
def Pm:TI:={ size:=1,bytes:=16,zero:=[.d (.str ByteArray.empty)] }
def R5:TI:={ size:=1,bytes:=16,zero:=[.d (.str ByteArray.empty)] }
def jlI:TI:={ size:=1,bytes:=16,zero:=[.d (.str ByteArray.empty)] }
def R8:TI:={ size:=1,bytes:=8,zero:=[.d (.int .u64 0)] }
def TA:TI:={ size:=1,bytes:=16,zero:=[.d (.lit .nilIface)] }
def T5:TI:={ size:=1,bytes:=4,zero:=[.d (.int .i32 0)] }
def NY:TI:={ size:=1,bytes:=24,zero:=[.nl],sl:=some 45 }
def Se:TI:={ size:=1,bytes:=24,zero:=[.nl],sl:=some 51 }
def Pe:TI:={ agg:=true,size:=2,bytes:=48,zero:=[.nl,.nl],flds:=[(0,22),(1,23)] }
def La:TI:={ size:=1,bytes:=24,zero:=[.nl],sl:=some 9 }
def PI:TI:={ size:=1,bytes:=8,zero:=[.d .nilFn] }
def N7:TI:={ size:=1,bytes:=8,zero:=[.d (.int .i64 0)] }
def ST:TI:={ size:=1,bytes:=8,zero:=[.d .nilFn] }
def P7:TI:={ size:=1,bytes:=24,zero:=[.nl],sl:=some 3 }
def NS:TI:={ size:=1,bytes:=24,zero:=[.nl],sl:=some 249 }
def jfM:TI:={ size:=1,bytes:=24,zero:=[.nl],sl:=some 249 }
def Pp:TI:={ agg:=true,size:=2,bytes:=32,zero:=[.d (.bool false),.nl],flds:=[(0,4),(1,37)] }
def jeQ:TI:={ agg:=true,size:=2,bytes:=32,zero:=[.d (.bool false),.nl],flds:=[(0,4),(1,37)] }
def OG:TI:={ agg:=true,size:=3,bytes:=56,zero:=[.d (.bool false),.nl,.nl],flds:=[(0,39),(2,37)] }
def jeV:TI:={ agg:=true,size:=3,bytes:=56,zero:=[.d (.bool false),.nl,.nl],flds:=[(0,39),(2,37)] }
def P6:TI:={ agg:=true,size:=5,bytes:=88,zero:=[.d (.int .i64 0),.nl,.d (.bool false),.nl,.nl],flds:=[(0,3),(1,35),(2,41)] }
def jfg:TI:={ agg:=true,size:=5,bytes:=88,zero:=[.d (.int .i64 0),.nl,.d (.bool false),.nl,.nl],flds:=[(0,3),(1,35),(2,41)] }
def Sn:TI:={ agg:=true,size:=7,bytes:=120,zero:=[.d (.int .i64 0),.nl,.d (.bool false),.nl,.nl,.d (.int .i64 0),.nl],flds:=[(0,43),(5,3),(6,35)] }
def Km:TI:={ agg:=true,size:=7,bytes:=120,zero:=[.d (.int .i64 0),.nl,.d (.bool false),.nl,.nl,.d (.int .i64 0),.nl],flds:=[(0,43),(5,3),(6,35)] }
def KS:TI:={ size:=1,bytes:=8,zero:=[.d .nilFn] }
def LC:TI:={ size:=1,bytes:=8,zero:=[.d .nilFn] }
def Kg:TI:={ agg:=true,size:=2,bytes:=32,zero:=[.d (.int .i64 0),.nl],flds:=[(0,3),(1,35)] }
def Zl:TI:={ size:=1,bytes:=24,zero:=[.nl],sl:=some 94 }
def jfv:TI:={ size:=1,bytes:=24,zero:=[.nl],sl:=some 43 }
def ZL:TI:={ agg:=true,size:=2,bytes:=48,zero:=[.nl,.nl],flds:=[(0,52),(1,53)] }
def Kq:TI:={ size:=1,bytes:=8,zero:=[.d (.lit (.map none))],mp:=true }
def jfA:TI:={ size:=1,bytes:=8,zero:=[.d .nilFn] }
def jjH:TI:={ size:=1,bytes:=8,zero:=[.d .nilPtr] }
def jcg:TI:={ size:=1,bytes:=24,zero:=[.nl],sl:=some 5 }
def L0:TI:={ agg:=true,size:=2,bytes:=32,zero:=[.d .nilPtr,.nl],flds:=[(0,75),(1,76)] }
def jeX:TI:={ size:=1,bytes:=16,zero:=[.d (.lit .nilIface)] }
def jm2:TI:={ size:=1,bytes:=24,zero:=[.nl],sl:=some 170 }
def Y4:TI:={ size:=1,bytes:=8,zero:=[.d .nilFn] }
def jnh:TI:={ agg:=true,size:=6,bytes:=104,zero:=[.d (.str ByteArray.empty),.nl,.nl,.nl,.d (.int .i64 0),.d .nilFn],flds:=[(0,9),(1,86),(2,86),(3,86),(4,3),(5,87)] }
def jd8:TI:={ agg:=true,size:=6,bytes:=104,zero:=[.d (.int .i64 0),.d (.str ByteArray.empty),.nl,.d (.bool false),.nl,.nl],flds:=[(0,3),(1,9),(2,35),(3,41)] }
def jcl:TI:={ size:=1,bytes:=8,zero:=[.d .nilFn] }
def jbo:TI:={ size:=1,bytes:=8,zero:=[.d .nilFn] }
def jdH:TI:={ size:=1,bytes:=24,zero:=[.nl],sl:=some 4 }
def jdy:TI:={ size:=1,bytes:=8,zero:=[.d (.lit (.map none))],mp:=true,mpi:=true }
def jdp:TI:={ size:=1,bytes:=8,zero:=[.d .nilFn] }
def jfk:TI:={ size:=1,bytes:=8,zero:=[.d .nilFn] }
def jey:TI:={ agg:=true,size:=2,bytes:=16,zero:=[.d (.int .i64 0),.d (.int .i64 0)],flds:=[(0,3),(1,3)],flat:=true }
def MC:TI:={ size:=1,bytes:=24,zero:=[.nl],sl:=some 144 }
def jfS:TI:={ agg:=true,size:=8,bytes:=144,zero:=[.d (.int .i64 0),.nl,.d (.bool false),.nl,.nl,.d (.int .i64 0),.nl,.nl],flds:=[(0,45),(7,23)] }
def jfz:TI:={ size:=1,bytes:=24,zero:=[.nl],sl:=some 149 }
def jeE:TI:={ agg:=true,size:=6,bytes:=112,zero:=[.d (.int .i64 0),.nl,.d (.bool false),.nl,.nl,.nl],flds:=[(0,43),(5,23)] }
def Ot:TI:={ size:=1,bytes:=8,zero:=[.d (.int .u64 0)] }
def Pi:TI:={ size:=1,bytes:=8,zero:=[.d .nilFn] }
def P0:TI:={ size:=1,bytes:=8,zero:=[.d .nilFn] }
def RJ:TI:={ size:=1,bytes:=8,zero:=[.d .nilFn] }
def jeW:TI:={ agg:=true,size:=3,bytes:=32,zero:=[.d (.int .i64 0),.d (.str ByteArray.empty),.d (.int .i64 0)],flds:=[(0,3),(1,9),(2,3)] }
def LS:TI:={ size:=1,bytes:=8,zero:=[.d .nilFn] }
def jeU:TI:={ size:=1,bytes:=8,zero:=[.d (.int .u64 0)] }
def Ny:TI:={ size:=1,bytes:=24,zero:=[.nl],sl:=some 193 }
def jfq:TI:={ agg:=true,size:=7,bytes:=136,zero:=[.d (.int .i64 0),.nl,.d (.bool false),.nl,.nl,.nl,.nl],flds:=[(0,43),(5,35),(6,23)] }
def Ow:TI:={ agg:=true,size:=1,bytes:=8,zero:=[.d .nilFn],flds:=[(0,98)] }
def jnz:TI:={ size:=1,bytes:=8,zero:=[.d .nilFn] }
def je3:TI:={ size:=1,bytes:=8,zero:=[.d .nilFn] }
def O4:TI:={ size:=1,bytes:=8,zero:=[.d .nilFn] }
def jbX:TI:={ size:=1,bytes:=8,zero:=[.d .nilFn] }
def jdA:TI:={ size:=1,bytes:=8,zero:=[.d (.int .i64 0)] }
def Kx:TI:={ size:=1,bytes:=8,zero:=[.d .nilFn] }
def jbB:TI:={ size:=1,bytes:=4,zero:=[.d (.int .u32 0)] }
def jdh:TI:={ size:=1,bytes:=8,zero:=[.d .nilPtr] }
def jfB:TI:={ agg:=true,size:=6,bytes:=96,zero:=[.nl,.nl,.nl,.d (.int .i64 0),.d (.int .i64 0),.d (.int .i64 0)],flds:=[(0,26),(1,35),(2,26),(3,3),(4,3),(5,30)] }
def Pa:TI:={ size:=1,bytes:=8,zero:=[.d .nilFn] }
def Yv:TI:={ agg:=true,size:=2,bytes:=16,zero:=[.d (.int .i64 0),.d (.int .i64 0)],arr:=some (2,3),flat:=true }
def LZ:TI:={ agg:=true,size:=2,bytes:=16,zero:=[.d (.int .i64 0),.d (.int .i64 0)],arr:=some (2,3),flat:=true }
def Ke:TI:={ size:=1,bytes:=8,zero:=[.d .nilFn] }
def jmA:TI:={ size:=1,bytes:=2,zero:=[.d (.int .u16 0)] }
def jdK:TI:={ size:=1,bytes:=24,zero:=[.nl],sl:=some 133 }
def NF:TI:={ size:=1,bytes:=24,zero:=[.nl],sl:=some 257 }
def Zt:TI:={ agg:=true,size:=6,bytes:=112,zero:=[.d (.int .i64 0),.nl,.d (.bool false),.nl,.nl,.nl],flds:=[(0,43),(5,23)] }
def jbL:TI:={ size:=1,bytes:=24,zero:=[.nl],sl:=some 266 }
def MN:TI:={ agg:=true,size:=4,bytes:=88,zero:=[.d (.str ByteArray.empty),.nl,.nl,.nl],flds:=[(0,9),(1,258),(2,258),(3,258)] }
def O0:TI:={ size:=1,bytes:=24,zero:=[.nl],sl:=some 263 }
def YA:TI:={ size:=1,bytes:=24,zero:=[.nl],sl:=some 325 }
def jeY:TI:={ agg:=true,size:=4,bytes:=40,zero:=[.d (.int .i64 0),.d (.str ByteArray.empty),.d (.bool false),.d (.int .i64 0)],flds:=[(0,3),(1,9),(2,4),(3,3)] }
def jnY:TI:={ size:=1,bytes:=2,zero:=[.d (.int .i16 0)] }
def jfK:TI:={ agg:=true,size:=26,bytes:=52,zero:=List.replicate 26 (.d (.int .i16 0)),arr:=some (26,267),flat:=true }
def ZM:TI:={ size:=1,bytes:=24,zero:=[.nl],sl:=some 273 }
def jc6:TI:={ agg:=true,size:=2,bytes:=16,zero:=[.d (.int .i64 0),.d (.int .i64 0)],arr:=some (2,3),flat:=true }
def jnS:TI:={ size:=1,bytes:=8,zero:=[.d .nilFn] }
def jc3:TI:={ agg:=true,size:=26,bytes:=208,zero:=List.replicate 26 (.d (.int .i64 0)),arr:=some (26,3),flat:=true }
def jdw:TI:={ agg:=true,size:=52,bytes:=416,zero:=List.replicate 52 (.d (.int .i64 0)),arr:=some (26,239) }
def jdI:TI:={ agg:=true,size:=78,bytes:=624,zero:=List.replicate 78 (.d (.int .i64 0)),flds:=[(0,277),(26,278)] }
def jdF:TI:={ size:=1,bytes:=8,zero:=[.d .nilFn] }
def je5:TI:={ size:=1,bytes:=8,zero:=[.d .nilPtr] }
def jbc:TI:={ agg:=true,size:=2,bytes:=16,zero:=[.d (.int .i64 0),.d (.int .u16 0)],flds:=[(0,3),(1,249)],flat:=true }
def jei:TI:={ size:=1,bytes:=8,zero:=[.d .nilFn] }
def jeI:TI:={ size:=1,bytes:=24,zero:=[.nl],sl:=some 35 }
def jcL:TI:={ agg:=true,size:=2,bytes:=32,zero:=[.d (.int .i64 0),.nl],flds:=[(0,3),(1,35)] }
def jd7:TI:={ size:=1,bytes:=24,zero:=[.nl],sl:=some 343 }
def jd0:TI:={ size:=1,bytes:=24,zero:=[.nl],sl:=some 239 }
def Yq:TI:={ size:=1,bytes:=24,zero:=[.nl],sl:=some 376 }
def jdk:TI:={ agg:=true,size:=5,bytes:=72,zero:=[.d (.int .i64 0),.d (.int .i64 0),.d (.bool false),.nl,.nl],flds:=[(0,3),(1,3),(2,41)] }
def I9:List (Option TI):=[none,some Re,some Oa,some Pg,some Ri,some O2,some N1,some Pv,some OY,some Pm,some R5,some jlI,some R8,none,none,none,none,none,none,none,some TA,some T5,some NY,some Se,none,some Pe,some La,none,none,some PI,some N7,none,none,none,some ST,some P7,some NS,some jfM,some Pp,some jeQ,some OG,some jeV,some P6,some jfg,some Sn,some Km,none,some KS,none,some LC,none,some Kg,some Zl,some jfv,none,some ZL,none,none,none,none,none,none,some Kq,none,none,none,none,none,none,some jfA,none,none,none,none,none,some jjH,some jcg,none,some L0,none,none,some jeX,none,none,none,none,some jm2,some Y4,none,some jnh,none,none,none,none,some jd8,none,none,none,some jcl,none,none,none,none,none,some jbo,some jdH,none,none,some jdy,none,none,none,some jdp,none,some jfk,none,none,none,none,none,none,none,none,none,none,none,none,none,none,none,none,none,none,some jey,none,none,none,none,none,none,none,some MC,none,none,some jfS,none,some jfz,none,none,some jeE,none,none,some Ot,some Pi,none,some P0,none,none,none,none,none,none,none,some RJ,none,none,none,none,none,none,some jeW,none,none,some LS,none,none,none,none,none,none,some jeU,none,none,none,none,none,none,none,none,none,some Ny,none,none,some jfq,none,some Ow,none,none,none,some jnz,some je3,some O4,none,none,some jbX,none,some jdA,none,some Kx,none,none,none,none,some jbB,none,none,none,none,none,some jdh,none,some jfB,none,none,none,none,none,none,none,none,none,some Pa,none,none,none,none,none,none,some Yv,some LZ,none,none,none,none,none,none,none,none,some Ke,some jmA,none,none,some jdK,some NF,none,none,none,some Zt,some jbL,none,some MN,none,some O0,some YA,none,none,some jeY,some jnY,none,some jfK,none,some ZM,none,some jc6,none,none,some jnS,some jc3,some jdw,none,some jdI,none,some jdF,none,none,none,none,none,none,none,some je5,none,none,none,none,none,none,none,none,none,none,none,none,none,none,some jbc,none,none,none,none,none,none,none,some jei,none,none,none,none,none,none,none,none,some jeI,none,none,some jcL,none,none,none,none,none,none,none,none,none,none,none,none,none,none,none,some jd7,none,some jd0,none,none,none,none,none,none,none,none,none,none,none,none,none,none,none,none,none,none,none,none,none,none,none,none,none,none,none,none,none,some Yq,none,none,some jdk]
def tb:AH:=fun t=>(I9[t]?).join
def H1(P:Program):Nat→List (Option TI)→Bool
 |_,[]=>true
 |k,o::r=>(match o with|some i=>HB P k i|none=>true)&&H1 P (k+1) r
theorem PH{P:Program}: ∀(l:List (Option TI)) (k:Nat),H1 P k l=true→ ∀t i,l[t]? =some (some i)→HB P (k+t) i=true
 |[],_,_,_,_,h=>by simp at h
 |o::r,k,hb,0,i,h=>by
  simp only[List.getElem?_cons_zero,Option.some.injEq]at h;subst h;unfold H1 at hb
  simpa using (AR _ _ ▸ hb).1
 |o::r,k,hb,t+1,i,h=>by
  unfold H1 at hb;have:=PH r (k+1) (by simpa using (AR _ _ ▸ hb).2) t i (by simpa using h)
  rwa [show k+1+t=k+(t+1) by omega]at this
theorem jea:H1 Tryz.prog 0 I9=true:=by kernel_rfl
theorem Ak:A5 Tryz.prog tb:=fun t i h=>by
 have:=PH I9 0 jea t i (by unfold tb at h;cases hx:I9[t]? <;>simp[hx]at h;rw[h])
 rwa [Nat.zero_add]at this
theorem mixed:Tryz.prog.follows .mixedOrders=true:=by kernel_rfl
@[simp]theorem tb_1:tb 1=some { size:=1,bytes:=8,zero:=[.d .nilFn] }:=rfl
@[simp]theorem tb_2:tb 2=some { size:=1,bytes:=8,zero:=[.d (.int .i64 0)] }:=rfl
@[simp]theorem tb_3:tb 3=some { size:=1,bytes:=8,zero:=[.d (.int .i64 0)] }:=rfl
@[simp]theorem tb_4:tb 4=some { size:=1,bytes:=1,zero:=[.d (.bool false)] }:=rfl
@[simp]theorem tb_5:tb 5=some { size:=1,bytes:=1,zero:=[.d (.int .u8 0)] }:=rfl
@[simp]theorem tb_6:tb 6=some { size:=1,bytes:=1,zero:=[.d (.int .u8 0)] }:=rfl
@[simp]theorem tb_7:tb 7=some { agg:=true,size:=4,bytes:=24,zero:=[.d (.int .i64 0),.d (.int .i64 0),.d (.bool false),.d (.int .u8 0)],flds:=[(0,2),(1,3),(2,4),(3,6)],flat:=true }:=rfl
@[simp]theorem tb_8:tb 8=some { agg:=true,size:=4,bytes:=24,zero:=[.d (.int .i64 0),.d (.int .i64 0),.d (.bool false),.d (.int .u8 0)],flds:=[(0,2),(1,3),(2,4),(3,6)],flat:=true }:=rfl
@[simp]theorem tb_9:tb 9=some { size:=1,bytes:=16,zero:=[.d (.str ByteArray.empty)] }:=rfl
@[simp]theorem tb_10:tb 10=some { size:=1,bytes:=16,zero:=[.d (.str ByteArray.empty)] }:=rfl
@[simp]theorem tb_11:tb 11=some { size:=1,bytes:=16,zero:=[.d (.str ByteArray.empty)] }:=rfl
@[simp]theorem tb_12:tb 12=some { size:=1,bytes:=8,zero:=[.d (.int .u64 0)] }:=rfl
@[simp]theorem tb_20:tb 20=some { size:=1,bytes:=16,zero:=[.d (.lit .nilIface)] }:=rfl
@[simp]theorem tb_21:tb 21=some { size:=1,bytes:=4,zero:=[.d (.int .i32 0)] }:=rfl
@[simp]theorem tb_22:tb 22=some { size:=1,bytes:=24,zero:=[.nl],sl:=some 45 }:=rfl
@[simp]theorem tb_23:tb 23=some { size:=1,bytes:=24,zero:=[.nl],sl:=some 51 }:=rfl
@[simp]theorem tb_25:tb 25=some { agg:=true,size:=2,bytes:=48,zero:=[.nl,.nl],flds:=[(0,22),(1,23)] }:=rfl
@[simp]theorem tb_26:tb 26=some { size:=1,bytes:=24,zero:=[.nl],sl:=some 9 }:=rfl
@[simp]theorem tb_29:tb 29=some { size:=1,bytes:=8,zero:=[.d .nilFn] }:=rfl
@[simp]theorem tb_30:tb 30=some { size:=1,bytes:=8,zero:=[.d (.int .i64 0)] }:=rfl
@[simp]theorem tb_34:tb 34=some { size:=1,bytes:=8,zero:=[.d .nilFn] }:=rfl
@[simp]theorem tb_35:tb 35=some { size:=1,bytes:=24,zero:=[.nl],sl:=some 3 }:=rfl
@[simp]theorem tb_36:tb 36=some { size:=1,bytes:=24,zero:=[.nl],sl:=some 249 }:=rfl
@[simp]theorem tb_37:tb 37=some { size:=1,bytes:=24,zero:=[.nl],sl:=some 249 }:=rfl
@[simp]theorem tb_38:tb 38=some { agg:=true,size:=2,bytes:=32,zero:=[.d (.bool false),.nl],flds:=[(0,4),(1,37)] }:=rfl
@[simp]theorem tb_39:tb 39=some { agg:=true,size:=2,bytes:=32,zero:=[.d (.bool false),.nl],flds:=[(0,4),(1,37)] }:=rfl
@[simp]theorem tb_40:tb 40=some { agg:=true,size:=3,bytes:=56,zero:=[.d (.bool false),.nl,.nl],flds:=[(0,39),(2,37)] }:=rfl
@[simp]theorem tb_41:tb 41=some { agg:=true,size:=3,bytes:=56,zero:=[.d (.bool false),.nl,.nl],flds:=[(0,39),(2,37)] }:=rfl
@[simp]theorem tb_42:tb 42=some { agg:=true,size:=5,bytes:=88,zero:=[.d (.int .i64 0),.nl,.d (.bool false),.nl,.nl],flds:=[(0,3),(1,35),(2,41)] }:=rfl
@[simp]theorem tb_43:tb 43=some { agg:=true,size:=5,bytes:=88,zero:=[.d (.int .i64 0),.nl,.d (.bool false),.nl,.nl],flds:=[(0,3),(1,35),(2,41)] }:=rfl
@[simp]theorem tb_44:tb 44=some { agg:=true,size:=7,bytes:=120,zero:=[.d (.int .i64 0),.nl,.d (.bool false),.nl,.nl,.d (.int .i64 0),.nl],flds:=[(0,43),(5,3),(6,35)] }:=rfl
@[simp]theorem tb_45:tb 45=some { agg:=true,size:=7,bytes:=120,zero:=[.d (.int .i64 0),.nl,.d (.bool false),.nl,.nl,.d (.int .i64 0),.nl],flds:=[(0,43),(5,3),(6,35)] }:=rfl
@[simp]theorem tb_47:tb 47=some { size:=1,bytes:=8,zero:=[.d .nilFn] }:=rfl
@[simp]theorem tb_49:tb 49=some { size:=1,bytes:=8,zero:=[.d .nilFn] }:=rfl
@[simp]theorem tb_51:tb 51=some { agg:=true,size:=2,bytes:=32,zero:=[.d (.int .i64 0),.nl],flds:=[(0,3),(1,35)] }:=rfl
@[simp]theorem tb_52:tb 52=some { size:=1,bytes:=24,zero:=[.nl],sl:=some 94 }:=rfl
@[simp]theorem tb_53:tb 53=some { size:=1,bytes:=24,zero:=[.nl],sl:=some 43 }:=rfl
@[simp]theorem tb_55:tb 55=some { agg:=true,size:=2,bytes:=48,zero:=[.nl,.nl],flds:=[(0,52),(1,53)] }:=rfl
@[simp]theorem tb_62:tb 62=some { size:=1,bytes:=8,zero:=[.d (.lit (.map none))],mp:=true }:=rfl
@[simp]theorem tb_69:tb 69=some { size:=1,bytes:=8,zero:=[.d .nilFn] }:=rfl
@[simp]theorem tb_75:tb 75=some { size:=1,bytes:=8,zero:=[.d .nilPtr] }:=rfl
@[simp]theorem tb_76:tb 76=some { size:=1,bytes:=24,zero:=[.nl],sl:=some 5 }:=rfl
@[simp]theorem tb_78:tb 78=some { agg:=true,size:=2,bytes:=32,zero:=[.d .nilPtr,.nl],flds:=[(0,75),(1,76)] }:=rfl
@[simp]theorem tb_81:tb 81=some { size:=1,bytes:=16,zero:=[.d (.lit .nilIface)] }:=rfl
@[simp]theorem tb_86:tb 86=some { size:=1,bytes:=24,zero:=[.nl],sl:=some 170 }:=rfl
@[simp]theorem tb_87:tb 87=some { size:=1,bytes:=8,zero:=[.d .nilFn] }:=rfl
@[simp]theorem tb_89:tb 89=some { agg:=true,size:=6,bytes:=104,zero:=[.d (.str ByteArray.empty),.nl,.nl,.nl,.d (.int .i64 0),.d .nilFn],flds:=[(0,9),(1,86),(2,86),(3,86),(4,3),(5,87)] }:=rfl
@[simp]theorem tb_94:tb 94=some { agg:=true,size:=6,bytes:=104,zero:=[.d (.int .i64 0),.d (.str ByteArray.empty),.nl,.d (.bool false),.nl,.nl],flds:=[(0,3),(1,9),(2,35),(3,41)] }:=rfl
@[simp]theorem tb_98:tb 98=some { size:=1,bytes:=8,zero:=[.d .nilFn] }:=rfl
@[simp]theorem tb_104:tb 104=some { size:=1,bytes:=8,zero:=[.d .nilFn] }:=rfl
@[simp]theorem tb_105:tb 105=some { size:=1,bytes:=24,zero:=[.nl],sl:=some 4 }:=rfl
@[simp]theorem tb_108:tb 108=some { size:=1,bytes:=8,zero:=[.d (.lit (.map none))],mp:=true,mpi:=true }:=rfl
@[simp]theorem tb_112:tb 112=some { size:=1,bytes:=8,zero:=[.d .nilFn] }:=rfl
@[simp]theorem tb_114:tb 114=some { size:=1,bytes:=8,zero:=[.d .nilFn] }:=rfl
@[simp]theorem tb_133:tb 133=some { agg:=true,size:=2,bytes:=16,zero:=[.d (.int .i64 0),.d (.int .i64 0)],flds:=[(0,3),(1,3)],flat:=true }:=rfl
@[simp]theorem tb_141:tb 141=some { size:=1,bytes:=24,zero:=[.nl],sl:=some 144 }:=rfl
@[simp]theorem tb_144:tb 144=some { agg:=true,size:=8,bytes:=144,zero:=[.d (.int .i64 0),.nl,.d (.bool false),.nl,.nl,.d (.int .i64 0),.nl,.nl],flds:=[(0,45),(7,23)] }:=rfl
@[simp]theorem tb_146:tb 146=some { size:=1,bytes:=24,zero:=[.nl],sl:=some 149 }:=rfl
@[simp]theorem tb_149:tb 149=some { agg:=true,size:=6,bytes:=112,zero:=[.d (.int .i64 0),.nl,.d (.bool false),.nl,.nl,.nl],flds:=[(0,43),(5,23)] }:=rfl
@[simp]theorem tb_152:tb 152=some { size:=1,bytes:=8,zero:=[.d (.int .u64 0)] }:=rfl
@[simp]theorem tb_153:tb 153=some { size:=1,bytes:=8,zero:=[.d .nilFn] }:=rfl
@[simp]theorem tb_155:tb 155=some { size:=1,bytes:=8,zero:=[.d .nilFn] }:=rfl
@[simp]theorem tb_163:tb 163=some { size:=1,bytes:=8,zero:=[.d .nilFn] }:=rfl
@[simp]theorem tb_170:tb 170=some { agg:=true,size:=3,bytes:=32,zero:=[.d (.int .i64 0),.d (.str ByteArray.empty),.d (.int .i64 0)],flds:=[(0,3),(1,9),(2,3)] }:=rfl
@[simp]theorem tb_173:tb 173=some { size:=1,bytes:=8,zero:=[.d .nilFn] }:=rfl
@[simp]theorem tb_180:tb 180=some { size:=1,bytes:=8,zero:=[.d (.int .u64 0)] }:=rfl
@[simp]theorem tb_190:tb 190=some { size:=1,bytes:=24,zero:=[.nl],sl:=some 193 }:=rfl
@[simp]theorem tb_193:tb 193=some { agg:=true,size:=7,bytes:=136,zero:=[.d (.int .i64 0),.nl,.d (.bool false),.nl,.nl,.nl,.nl],flds:=[(0,43),(5,35),(6,23)] }:=rfl
@[simp]theorem tb_195:tb 195=some { agg:=true,size:=1,bytes:=8,zero:=[.d .nilFn],flds:=[(0,98)] }:=rfl
@[simp]theorem tb_199:tb 199=some { size:=1,bytes:=8,zero:=[.d .nilFn] }:=rfl
@[simp]theorem tb_200:tb 200=some { size:=1,bytes:=8,zero:=[.d .nilFn] }:=rfl
@[simp]theorem tb_201:tb 201=some { size:=1,bytes:=8,zero:=[.d .nilFn] }:=rfl
@[simp]theorem tb_204:tb 204=some { size:=1,bytes:=8,zero:=[.d .nilFn] }:=rfl
@[simp]theorem tb_206:tb 206=some { size:=1,bytes:=8,zero:=[.d (.int .i64 0)] }:=rfl
@[simp]theorem tb_208:tb 208=some { size:=1,bytes:=8,zero:=[.d .nilFn] }:=rfl
@[simp]theorem tb_213:tb 213=some { size:=1,bytes:=4,zero:=[.d (.int .u32 0)] }:=rfl
@[simp]theorem tb_219:tb 219=some { size:=1,bytes:=8,zero:=[.d .nilPtr] }:=rfl
@[simp]theorem tb_221:tb 221=some { agg:=true,size:=6,bytes:=96,zero:=[.nl,.nl,.nl,.d (.int .i64 0),.d (.int .i64 0),.d (.int .i64 0)],flds:=[(0,26),(1,35),(2,26),(3,3),(4,3),(5,30)] }:=rfl
@[simp]theorem tb_231:tb 231=some { size:=1,bytes:=8,zero:=[.d .nilFn] }:=rfl
@[simp]theorem tb_238:tb 238=some { agg:=true,size:=2,bytes:=16,zero:=[.d (.int .i64 0),.d (.int .i64 0)],arr:=some (2,3),flat:=true }:=rfl
@[simp]theorem tb_239:tb 239=some { agg:=true,size:=2,bytes:=16,zero:=[.d (.int .i64 0),.d (.int .i64 0)],arr:=some (2,3),flat:=true }:=rfl
@[simp]theorem tb_248:tb 248=some { size:=1,bytes:=8,zero:=[.d .nilFn] }:=rfl
@[simp]theorem tb_249:tb 249=some { size:=1,bytes:=2,zero:=[.d (.int .u16 0)] }:=rfl
@[simp]theorem tb_252:tb 252=some { size:=1,bytes:=24,zero:=[.nl],sl:=some 133 }:=rfl
@[simp]theorem tb_253:tb 253=some { size:=1,bytes:=24,zero:=[.nl],sl:=some 257 }:=rfl
@[simp]theorem tb_257:tb 257=some { agg:=true,size:=6,bytes:=112,zero:=[.d (.int .i64 0),.nl,.d (.bool false),.nl,.nl,.nl],flds:=[(0,43),(5,23)] }:=rfl
@[simp]theorem tb_258:tb 258=some { size:=1,bytes:=24,zero:=[.nl],sl:=some 266 }:=rfl
@[simp]theorem tb_260:tb 260=some { agg:=true,size:=4,bytes:=88,zero:=[.d (.str ByteArray.empty),.nl,.nl,.nl],flds:=[(0,9),(1,258),(2,258),(3,258)] }:=rfl
@[simp]theorem tb_262:tb 262=some { size:=1,bytes:=24,zero:=[.nl],sl:=some 263 }:=rfl
@[simp]theorem tb_263:tb 263=some { size:=1,bytes:=24,zero:=[.nl],sl:=some 325 }:=rfl
@[simp]theorem tb_266:tb 266=some { agg:=true,size:=4,bytes:=40,zero:=[.d (.int .i64 0),.d (.str ByteArray.empty),.d (.bool false),.d (.int .i64 0)],flds:=[(0,3),(1,9),(2,4),(3,3)] }:=rfl
@[simp]theorem tb_267:tb 267=some { size:=1,bytes:=2,zero:=[.d (.int .i16 0)] }:=rfl
@[simp]theorem tb_269:tb 269=some { agg:=true,size:=26,bytes:=52,zero:=List.replicate 26 (.d (.int .i16 0)),arr:=some (26,267),flat:=true }:=rfl
@[simp]theorem tb_271:tb 271=some { size:=1,bytes:=24,zero:=[.nl],sl:=some 273 }:=rfl
@[simp]theorem tb_273:tb 273=some { agg:=true,size:=2,bytes:=16,zero:=[.d (.int .i64 0),.d (.int .i64 0)],arr:=some (2,3),flat:=true }:=rfl
@[simp]theorem tb_276:tb 276=some { size:=1,bytes:=8,zero:=[.d .nilFn] }:=rfl
@[simp]theorem tb_277:tb 277=some { agg:=true,size:=26,bytes:=208,zero:=List.replicate 26 (.d (.int .i64 0)),arr:=some (26,3),flat:=true }:=rfl
@[simp]theorem tb_278:tb 278=some { agg:=true,size:=52,bytes:=416,zero:=List.replicate 52 (.d (.int .i64 0)),arr:=some (26,239) }:=rfl
@[simp]theorem tb_280:tb 280=some { agg:=true,size:=78,bytes:=624,zero:=List.replicate 78 (.d (.int .i64 0)),flds:=[(0,277),(26,278)] }:=rfl
@[simp]theorem tb_282:tb 282=some { size:=1,bytes:=8,zero:=[.d .nilFn] }:=rfl
@[simp]theorem tb_290:tb 290=some { size:=1,bytes:=8,zero:=[.d .nilPtr] }:=rfl
@[simp]theorem tb_305:tb 305=some { agg:=true,size:=2,bytes:=16,zero:=[.d (.int .i64 0),.d (.int .u16 0)],flds:=[(0,3),(1,249)],flat:=true }:=rfl
@[simp]theorem tb_313:tb 313=some { size:=1,bytes:=8,zero:=[.d .nilFn] }:=rfl
@[simp]theorem tb_322:tb 322=some { size:=1,bytes:=24,zero:=[.nl],sl:=some 35 }:=rfl
@[simp]theorem tb_325:tb 325=some { agg:=true,size:=2,bytes:=32,zero:=[.d (.int .i64 0),.nl],flds:=[(0,3),(1,35)] }:=rfl
@[simp]theorem tb_341:tb 341=some { size:=1,bytes:=24,zero:=[.nl],sl:=some 343 }:=rfl
@[simp]theorem tb_343:tb 343=some { size:=1,bytes:=24,zero:=[.nl],sl:=some 239 }:=rfl
@[simp]theorem tb_373:tb 373=some { size:=1,bytes:=24,zero:=[.nl],sl:=some 376 }:=rfl
@[simp]theorem tb_376:tb 376=some { agg:=true,size:=5,bytes:=72,zero:=[.d (.int .i64 0),.d (.int .i64 0),.d (.bool false),.nl,.nl],flds:=[(0,3),(1,3),(2,41)] }:=rfl
end Go.Va
