/- a part of the proof -/
import Derived.Test.YtlgoebgnbkhmmaaGreatDoorZab
import Derived.Test.YtlgoebgnbkhmmaaGreatDoorProg
set_option linter.all false
set_option maxRecDepth 20000
namespace Go.Va
open Go.Proofs
def Re:TI:={ size:=1,bytes:=8,zero:=[.d .nilFn] }
def Oa:TI:={ size:=1,bytes:=8,zero:=[.d (.int .i64 0)] }
def Pg:TI:={ size:=1,bytes:=8,zero:=[.d (.int .i64 0)] }
def Ri:TI:={ size:=1,bytes:=1,zero:=[.d (.bool false)] }
def O2:TI:={ size:=1,bytes:=1,zero:=[.d (.int .u8 0)] }
def N1:TI:={ size:=1,bytes:=1,zero:=[.d (.int .u8 0)] }
def Pv:TI:={ agg:=true,size:=4,bytes:=24,zero:=[.d (.int .i64 0),.d (.int .i64 0),.d (.bool false),.d (.int .u8 0)],flds:=[(0,2),(1,3),(2,4),(3,6)],flat:=true }
def OY:TI:={ agg:=true,size:=4,bytes:=24,zero:=[.d (.int .i64 0),.d (.int .i64 0),.d (.bool false),.d (.int .u8 0)],flds:=[(0,2),(1,3),(2,4),(3,6)],flat:=true }
def Pm:TI:={ size:=1,bytes:=16,zero:=[.d (.str ByteArray.empty)] }
def R5:TI:={ size:=1,bytes:=16,zero:=[.d (.str ByteArray.empty)] }
def jlI:TI:={ size:=1,bytes:=16,zero:=[.d (.str ByteArray.empty)] }
def R8:TI:={ size:=1,bytes:=8,zero:=[.d (.int .u64 0)] }
def TA:TI:={ size:=1,bytes:=16,zero:=[.d (.lit .nilIface)] }
def T5:TI:={ size:=1,bytes:=4,zero:=[.d (.int .i32 0)] }
def NY:TI:={ size:=1,bytes:=24,zero:=[.nl],sl:=some 9 }
def Se:TI:={ size:=1,bytes:=8,zero:=[.d .nilFn] }
def jlO:TI:={ size:=1,bytes:=8,zero:=[.d .nilFn] }
def Pe:TI:={ size:=1,bytes:=24,zero:=[.nl],sl:=some 69 }
def La:TI:={ size:=1,bytes:=24,zero:=[.nl],sl:=some 57 }
def jbr:TI:={ agg:=true,size:=2,bytes:=48,zero:=[.nl,.nl],flds:=[(0,25),(1,26)] }
def PI:TI:={ size:=1,bytes:=8,zero:=[.d (.int .i64 0)] }
def ST:TI:={ size:=1,bytes:=24,zero:=[.nl],sl:=some 76 }
def P7:TI:={ size:=1,bytes:=24,zero:=[.nl],sl:=some 50 }
def NS:TI:={ agg:=true,size:=2,bytes:=48,zero:=[.nl,.nl],flds:=[(0,34),(1,35)] }
def jfM:TI:={ agg:=true,size:=2,bytes:=48,zero:=[.nl,.nl],flds:=[(0,34),(1,35)] }
def Pp:TI:={ size:=1,bytes:=8,zero:=[.d .nilFn] }
def OG:TI:={ size:=1,bytes:=8,zero:=[.d .nilFn] }
def jeV:TI:={ size:=1,bytes:=8,zero:=[.d .nilFn] }
def P6:TI:={ size:=1,bytes:=24,zero:=[.nl],sl:=some 3 }
def jfg:TI:={ size:=1,bytes:=24,zero:=[.nl],sl:=some 245 }
def Sn:TI:={ size:=1,bytes:=24,zero:=[.nl],sl:=some 245 }
def Km:TI:={ agg:=true,size:=2,bytes:=32,zero:=[.d (.bool false),.nl],flds:=[(0,4),(1,44)] }
def jfn:TI:={ agg:=true,size:=2,bytes:=32,zero:=[.d (.bool false),.nl],flds:=[(0,4),(1,44)] }
def KS:TI:={ agg:=true,size:=3,bytes:=56,zero:=[.d (.bool false),.nl,.nl],flds:=[(0,46),(2,44)] }
def jdI:TI:={ agg:=true,size:=3,bytes:=56,zero:=[.d (.bool false),.nl,.nl],flds:=[(0,46),(2,44)] }
def jhq:TI:={ agg:=true,size:=5,bytes:=88,zero:=[.d (.int .i64 0),.nl,.d (.bool false),.nl,.nl],flds:=[(0,3),(1,42),(2,48)] }
def ZL:TI:={ size:=1,bytes:=8,zero:=[.d (.lit (.map none))],mp:=true }
def jc9:TI:={ agg:=true,size:=2,bytes:=32,zero:=[.d (.int .i64 0),.nl],flds:=[(0,3),(1,42)] }
def Kq:TI:={ size:=1,bytes:=8,zero:=[.d .nilFn] }
def jfW:TI:={ size:=1,bytes:=8,zero:=[.d .nilFn] }
def jfA:TI:={ agg:=true,size:=7,bytes:=120,zero:=[.d (.int .i64 0),.nl,.d (.bool false),.nl,.nl,.d (.int .i64 0),.nl],flds:=[(0,50),(5,3),(6,42)] }
def jcg:TI:={ agg:=true,size:=6,bytes:=104,zero:=[.d (.int .i64 0),.d (.str ByteArray.empty),.nl,.d (.bool false),.nl,.nl],flds:=[(0,3),(1,9),(2,42),(3,48)] }
def L0:TI:={ size:=1,bytes:=24,zero:=[.nl],sl:=some 5 }
def jeX:TI:={ size:=1,bytes:=8,zero:=[.d .nilFn] }
def jaJ:TI:={ size:=1,bytes:=8,zero:=[.d .nilFn] }
def jm2:TI:={ size:=1,bytes:=8,zero:=[.d .nilFn] }
def Y4:TI:={ size:=1,bytes:=8,zero:=[.d .nilFn] }
def ZZ:TI:={ size:=1,bytes:=8,zero:=[.d .nilFn] }
def jnh:TI:={ size:=1,bytes:=24,zero:=[.nl],sl:=some 4 }
def je3:TI:={ size:=1,bytes:=8,zero:=[.d (.lit (.map none))],mp:=true,mpi:=true }
def jdp:TI:={ size:=1,bytes:=8,zero:=[.d .nilFn] }
def jcl:TI:={ size:=1,bytes:=8,zero:=[.d .nilFn] }
def jnX:TI:={ size:=1,bytes:=8,zero:=[.d .nilPtr] }
def jmH:TI:={ agg:=true,size:=2,bytes:=32,zero:=[.d .nilPtr,.nl],flds:=[(0,99),(1,78)] }
def jbo:TI:={ size:=1,bytes:=16,zero:=[.d (.lit .nilIface)] }
def Yq:TI:={ agg:=true,size:=2,bytes:=16,zero:=[.d (.int .i64 0),.d (.int .i64 0)],flds:=[(0,3),(1,3)],flat:=true }
def jgq:TI:={ size:=1,bytes:=24,zero:=[.nl],sl:=some 141 }
def MC:TI:={ agg:=true,size:=8,bytes:=144,zero:=[.d (.int .i64 0),.nl,.d (.bool false),.nl,.nl,.d (.int .i64 0),.nl,.nl],flds:=[(0,69),(7,26)] }
def Yy:TI:={ size:=1,bytes:=24,zero:=[.nl],sl:=some 146 }
def jfz:TI:={ agg:=true,size:=6,bytes:=112,zero:=[.d (.int .i64 0),.nl,.d (.bool false),.nl,.nl,.nl],flds:=[(0,50),(5,26)] }
def jeE:TI:={ size:=1,bytes:=8,zero:=[.d (.int .u64 0)] }
def Ot:TI:={ size:=1,bytes:=8,zero:=[.d .nilFn] }
def Pi:TI:={ size:=1,bytes:=8,zero:=[.d .nilFn] }
def P0:TI:={ size:=1,bytes:=8,zero:=[.d .nilPtr] }
def jdA:TI:={ size:=1,bytes:=24,zero:=[.nl],sl:=some 281 }
def RJ:TI:={ size:=1,bytes:=8,zero:=[.d .nilFn] }
def jbc:TI:={ agg:=true,size:=6,bytes:=104,zero:=[.d (.str ByteArray.empty),.nl,.nl,.nl,.d (.int .i64 0),.d .nilFn],flds:=[(0,9),(1,162),(2,162),(3,162),(4,3),(5,163)] }
def jeW:TI:={ size:=1,bytes:=8,zero:=[.d .nilFn] }
def LS:TI:={ size:=1,bytes:=8,zero:=[.d .nilFn] }
def jbN:TI:={ size:=1,bytes:=8,zero:=[.d (.int .u64 0)] }
def jeU:TI:={ size:=1,bytes:=8,zero:=[.d .nilFn] }
def jbx:TI:={ size:=1,bytes:=24,zero:=[.nl],sl:=some 191 }
def jcK:TI:={ agg:=true,size:=7,bytes:=136,zero:=[.d (.int .i64 0),.nl,.d (.bool false),.nl,.nl,.nl,.nl],flds:=[(0,50),(5,42),(6,26)] }
def jfq:TI:={ agg:=true,size:=1,bytes:=8,zero:=[.d .nilFn],flds:=[(0,81)] }
def jah:TI:={ size:=1,bytes:=8,zero:=[.d .nilFn] }
def jax:TI:={ size:=1,bytes:=8,zero:=[.d .nilFn] }
def jnz:TI:={ size:=1,bytes:=8,zero:=[.d .nilFn] }
def jcL:TI:={ size:=1,bytes:=8,zero:=[.d .nilFn] }
def jbX:TI:={ size:=1,bytes:=8,zero:=[.d (.int .i64 0)] }
def Kx:TI:={ size:=1,bytes:=8,zero:=[.d .nilFn] }
def jdk:TI:={ size:=1,bytes:=4,zero:=[.d (.int .u32 0)] }
def jbB:TI:={ size:=1,bytes:=8,zero:=[.d .nilFn] }
def jfB:TI:={ size:=1,bytes:=8,zero:=[.d .nilFn] }
def jdh:TI:={ size:=1,bytes:=8,zero:=[.d .nilPtr] }
def jd8:TI:={ agg:=true,size:=6,bytes:=96,zero:=[.nl,.nl,.nl,.d (.int .i64 0),.d (.int .i64 0),.d (.int .i64 0)],flds:=[(0,22),(1,42),(2,22),(3,3),(4,3),(5,29)] }
def Pa:TI:={ size:=1,bytes:=8,zero:=[.d .nilFn] }
def jcQ:TI:={ size:=1,bytes:=24,zero:=[.nl],sl:=some 260 }
def jgy:TI:={ agg:=true,size:=4,bytes:=88,zero:=[.d (.str ByteArray.empty),.nl,.nl,.nl],flds:=[(0,9),(1,234),(2,234),(3,234)] }
def jdV:TI:={ size:=1,bytes:=2,zero:=[.d (.int .u16 0)] }
def Ke:TI:={ size:=1,bytes:=8,zero:=[.d .nilFn] }
def jmA:TI:={ size:=1,bytes:=8,zero:=[.d .nilFn] }
def jd0:TI:={ size:=1,bytes:=24,zero:=[.nl],sl:=some 130 }
def Zg:TI:={ size:=1,bytes:=24,zero:=[.nl],sl:=some 255 }
def jg8:TI:={ agg:=true,size:=6,bytes:=112,zero:=[.d (.int .i64 0),.nl,.d (.bool false),.nl,.nl,.nl],flds:=[(0,50),(5,26)] }
def ZM:TI:={ size:=1,bytes:=24,zero:=[.nl],sl:=some 257 }
def Zt:TI:={ size:=1,bytes:=24,zero:=[.nl],sl:=some 322 }
def MN:TI:={ agg:=true,size:=4,bytes:=40,zero:=[.d (.int .i64 0),.d (.str ByteArray.empty),.d (.bool false),.d (.int .i64 0)],flds:=[(0,3),(1,9),(2,4),(3,3)] }
def jbS:TI:={ size:=1,bytes:=2,zero:=[.d (.int .i16 0)] }
def YA:TI:={ agg:=true,size:=26,bytes:=52,zero:=List.replicate 26 (.d (.int .i16 0)),arr:=some (26,261),flat:=true }
def jnY:TI:={ size:=1,bytes:=24,zero:=[.nl],sl:=some 270 }
def jfK:TI:={ agg:=true,size:=2,bytes:=16,zero:=[.d (.int .i64 0),.d (.int .i64 0)],arr:=some (2,3),flat:=true }
def jbE:TI:={ agg:=true,size:=2,bytes:=16,zero:=[.d (.int .i64 0),.d (.int .i64 0)],arr:=some (2,3),flat:=true }
def jc6:TI:={ size:=1,bytes:=8,zero:=[.d .nilFn] }
def jhK:TI:={ agg:=true,size:=26,bytes:=208,zero:=List.replicate 26 (.d (.int .i64 0)),arr:=some (26,3),flat:=true }
def jdK:TI:={ agg:=true,size:=2,bytes:=16,zero:=[.d (.int .i64 0),.d (.int .i64 0)],arr:=some (2,3),flat:=true }
def jnS:TI:={ agg:=true,size:=52,bytes:=416,zero:=List.replicate 52 (.d (.int .i64 0)),arr:=some (26,275) }
def jdw:TI:={ agg:=true,size:=78,bytes:=624,zero:=List.replicate 78 (.d (.int .i64 0)),flds:=[(0,274),(26,276)] }
def jdH:TI:={ agg:=true,size:=3,bytes:=32,zero:=[.d (.int .i64 0),.d (.str ByteArray.empty),.d (.int .i64 0)],flds:=[(0,3),(1,9),(2,3)] }
def jdF:TI:={ size:=1,bytes:=8,zero:=[.d .nilFn] }
def je5:TI:={ size:=1,bytes:=8,zero:=[.d .nilPtr] }
def jeQ:TI:={ size:=1,bytes:=8,zero:=[.d .nilFn] }
def jhZ:TI:={ size:=1,bytes:=24,zero:=[.nl],sl:=some 42 }
def jeI:TI:={ agg:=true,size:=2,bytes:=32,zero:=[.d (.int .i64 0),.nl],flds:=[(0,3),(1,42)] }
def jff:TI:={ size:=1,bytes:=24,zero:=[.nl],sl:=some 342 }
def jhv:TI:={ size:=1,bytes:=24,zero:=[.nl],sl:=some 275 }
def Yr:TI:={ agg:=true,size:=2,bytes:=16,zero:=[.d (.int .i64 0),.d (.int .u16 0)],flds:=[(0,3),(1,245)],flat:=true }
def jgb:TI:={ size:=1,bytes:=24,zero:=[.nl],sl:=some 381 }
def Zl:TI:={ agg:=true,size:=5,bytes:=72,zero:=[.d (.int .i64 0),.d (.int .i64 0),.d (.bool false),.nl,.nl],flds:=[(0,3),(1,3),(2,48)] }
def I9:List (Option TI):=[none,some Re,some Oa,some Pg,some Ri,some O2,some N1,some Pv,some OY,some Pm,some R5,some jlI,some R8,none,none,none,none,none,none,none,some TA,some T5,some NY,some Se,some jlO,some Pe,some La,none,some jbr,some PI,none,none,none,none,some ST,some P7,some NS,some jfM,some Pp,none,some OG,some jeV,some P6,some jfg,some Sn,some Km,some jfn,some KS,some jdI,none,some jhq,none,none,none,none,some ZL,none,some jc9,none,none,none,none,some Kq,none,some jfW,none,none,none,none,some jfA,none,none,none,none,none,none,some jcg,none,some L0,none,none,some jeX,none,some jaJ,none,none,some jm2,some Y4,some ZZ,some jnh,none,none,some je3,none,none,none,some jdp,none,some jcl,some jnX,none,some jmH,none,none,some jbo,none,none,none,none,none,none,none,none,none,none,none,none,none,none,none,none,none,none,none,none,none,none,none,none,none,some Yq,none,none,none,none,none,none,none,some jgq,none,none,some MC,none,some Yy,none,none,some jfz,none,none,some jeE,none,none,some Ot,some Pi,none,some P0,none,none,none,none,none,none,some jdA,some RJ,none,some jbc,none,none,none,none,some jeW,none,none,some LS,none,none,none,some jbN,none,none,some jeU,none,none,none,none,none,none,none,some jbx,none,none,some jcK,none,some jfq,none,none,none,some jah,some jax,some jnz,none,none,some jcL,none,some jbX,none,none,none,some Kx,none,none,some jdk,none,some jbB,none,none,none,none,none,none,none,some jfB,some jdh,none,some jd8,none,none,none,none,none,none,some Pa,none,none,some jcQ,none,some jgy,none,none,none,none,none,none,none,none,some jdV,none,none,some Ke,some jmA,some jd0,some Zg,none,none,none,some jg8,some ZM,some Zt,none,none,some MN,some jbS,none,some YA,none,none,none,some jnY,none,some jfK,some jbE,none,none,some jc6,some jhK,some jdK,some jnS,none,some jdw,none,none,some jdH,some jdF,none,none,none,none,none,none,none,some je5,none,none,none,none,none,none,none,none,none,none,none,none,none,none,none,none,none,none,none,none,some jeQ,none,none,none,none,none,none,none,some jhZ,none,none,some jeI,none,none,none,none,none,none,none,none,none,none,none,none,none,none,none,none,none,some jff,none,some jhv,none,none,none,none,none,none,none,none,none,none,none,some Yr,none,none,none,none,none,none,none,none,none,none,none,none,none,none,none,none,none,none,none,none,none,none,none,some jgb,none,none,some Zl]
def tb:AH:=fun t=>(I9[t]?).join
def TM(P:Program):Nat→List (Option TI)→Bool
 |_,[]=>true
 |k,o::r=>(match o with|some i=>HB P k i|none=>true)&&TM P (k+1) r
theorem PH{P:Program}: ∀(l:List (Option TI)) (k:Nat),TM P k l=true→ ∀t i,l[t]? =some (some i)→HB P (k+t) i=true
 |[],_,_,_,_,h=>by simp at h
 |o::r,k,hb,0,i,h=>by
  simp only[List.getElem?_cons_zero,Option.some.injEq]at h;subst h;unfold TM at hb
  simpa using (AR _ _ ▸ hb).1
 |o::r,k,hb,t+1,i,h=>by
  unfold TM at hb;have:=PH r (k+1) (by simpa using (AR _ _ ▸ hb).2) t i (by simpa using h)
  rwa [show k+1+t=k+(t+1) by omega]at this
theorem jea:TM Tryz.prog 0 I9=true:=by kernel_rfl
theorem Ak:A5 Tryz.prog tb:=fun t i h=>by
 have:=PH I9 0 jea t i (by unfold tb at h;cases hx:I9[t]? <;>simp[hx]at h;rw[h])
 rwa [Nat.zero_add]at this
theorem mixed:Tryz.prog.follows .mixedOrders=true:=by kernel_rfl
@[simp]theorem tb_1:tb 1=some { size:=1,bytes:=8,zero:=[.d .nilFn] }:=rfl
@[simp]theorem tb_2:tb 2=some { size:=1,bytes:=8,zero:=[.d (.int .i64 0)] }:=rfl
@[simp]theorem tb_3:tb 3=some { size:=1,bytes:=8,zero:=[.d (.int .i64 0)] }:=rfl
@[simp]theorem tb_4:tb 4=some { size:=1,bytes:=1,zero:=[.d (.bool false)] }:=rfl
@[simp]theorem tb_5:tb 5=some { size:=1,bytes:=1,zero:=[.d (.int .u8 0)] }:=rfl
@[simp]theorem tb_6:tb 6=some { size:=1,bytes:=1,zero:=[.d (.int .u8 0)] }:=rfl
@[simp]theorem tb_7:tb 7=some { agg:=true,size:=4,bytes:=24,zero:=[.d (.int .i64 0),.d (.int .i64 0),.d (.bool false),.d (.int .u8 0)],flds:=[(0,2),(1,3),(2,4),(3,6)],flat:=true }:=rfl
@[simp]theorem tb_8:tb 8=some { agg:=true,size:=4,bytes:=24,zero:=[.d (.int .i64 0),.d (.int .i64 0),.d (.bool false),.d (.int .u8 0)],flds:=[(0,2),(1,3),(2,4),(3,6)],flat:=true }:=rfl
@[simp]theorem tb_9:tb 9=some { size:=1,bytes:=16,zero:=[.d (.str ByteArray.empty)] }:=rfl
@[simp]theorem tb_10:tb 10=some { size:=1,bytes:=16,zero:=[.d (.str ByteArray.empty)] }:=rfl
@[simp]theorem tb_11:tb 11=some { size:=1,bytes:=16,zero:=[.d (.str ByteArray.empty)] }:=rfl
@[simp]theorem tb_12:tb 12=some { size:=1,bytes:=8,zero:=[.d (.int .u64 0)] }:=rfl
@[simp]theorem tb_20:tb 20=some { size:=1,bytes:=16,zero:=[.d (.lit .nilIface)] }:=rfl
@[simp]theorem tb_21:tb 21=some { size:=1,bytes:=4,zero:=[.d (.int .i32 0)] }:=rfl
@[simp]theorem tb_22:tb 22=some { size:=1,bytes:=24,zero:=[.nl],sl:=some 9 }:=rfl
@[simp]theorem tb_23:tb 23=some { size:=1,bytes:=8,zero:=[.d .nilFn] }:=rfl
@[simp]theorem tb_24:tb 24=some { size:=1,bytes:=8,zero:=[.d .nilFn] }:=rfl
@[simp]theorem tb_25:tb 25=some { size:=1,bytes:=24,zero:=[.nl],sl:=some 69 }:=rfl
@[simp]theorem tb_26:tb 26=some { size:=1,bytes:=24,zero:=[.nl],sl:=some 57 }:=rfl
@[simp]theorem tb_28:tb 28=some { agg:=true,size:=2,bytes:=48,zero:=[.nl,.nl],flds:=[(0,25),(1,26)] }:=rfl
@[simp]theorem tb_29:tb 29=some { size:=1,bytes:=8,zero:=[.d (.int .i64 0)] }:=rfl
@[simp]theorem tb_34:tb 34=some { size:=1,bytes:=24,zero:=[.nl],sl:=some 76 }:=rfl
@[simp]theorem tb_35:tb 35=some { size:=1,bytes:=24,zero:=[.nl],sl:=some 50 }:=rfl
@[simp]theorem tb_36:tb 36=some { agg:=true,size:=2,bytes:=48,zero:=[.nl,.nl],flds:=[(0,34),(1,35)] }:=rfl
@[simp]theorem tb_37:tb 37=some { agg:=true,size:=2,bytes:=48,zero:=[.nl,.nl],flds:=[(0,34),(1,35)] }:=rfl
@[simp]theorem tb_38:tb 38=some { size:=1,bytes:=8,zero:=[.d .nilFn] }:=rfl
@[simp]theorem tb_40:tb 40=some { size:=1,bytes:=8,zero:=[.d .nilFn] }:=rfl
@[simp]theorem tb_41:tb 41=some { size:=1,bytes:=8,zero:=[.d .nilFn] }:=rfl
@[simp]theorem tb_42:tb 42=some { size:=1,bytes:=24,zero:=[.nl],sl:=some 3 }:=rfl
@[simp]theorem tb_43:tb 43=some { size:=1,bytes:=24,zero:=[.nl],sl:=some 245 }:=rfl
@[simp]theorem tb_44:tb 44=some { size:=1,bytes:=24,zero:=[.nl],sl:=some 245 }:=rfl
@[simp]theorem tb_45:tb 45=some { agg:=true,size:=2,bytes:=32,zero:=[.d (.bool false),.nl],flds:=[(0,4),(1,44)] }:=rfl
@[simp]theorem tb_46:tb 46=some { agg:=true,size:=2,bytes:=32,zero:=[.d (.bool false),.nl],flds:=[(0,4),(1,44)] }:=rfl
@[simp]theorem tb_47:tb 47=some { agg:=true,size:=3,bytes:=56,zero:=[.d (.bool false),.nl,.nl],flds:=[(0,46),(2,44)] }:=rfl
@[simp]theorem tb_48:tb 48=some { agg:=true,size:=3,bytes:=56,zero:=[.d (.bool false),.nl,.nl],flds:=[(0,46),(2,44)] }:=rfl
@[simp]theorem tb_50:tb 50=some { agg:=true,size:=5,bytes:=88,zero:=[.d (.int .i64 0),.nl,.d (.bool false),.nl,.nl],flds:=[(0,3),(1,42),(2,48)] }:=rfl
@[simp]theorem tb_55:tb 55=some { size:=1,bytes:=8,zero:=[.d (.lit (.map none))],mp:=true }:=rfl
@[simp]theorem tb_57:tb 57=some { agg:=true,size:=2,bytes:=32,zero:=[.d (.int .i64 0),.nl],flds:=[(0,3),(1,42)] }:=rfl
@[simp]theorem tb_62:tb 62=some { size:=1,bytes:=8,zero:=[.d .nilFn] }:=rfl
@[simp]theorem tb_64:tb 64=some { size:=1,bytes:=8,zero:=[.d .nilFn] }:=rfl
@[simp]theorem tb_69:tb 69=some { agg:=true,size:=7,bytes:=120,zero:=[.d (.int .i64 0),.nl,.d (.bool false),.nl,.nl,.d (.int .i64 0),.nl],flds:=[(0,50),(5,3),(6,42)] }:=rfl
@[simp]theorem tb_76:tb 76=some { agg:=true,size:=6,bytes:=104,zero:=[.d (.int .i64 0),.d (.str ByteArray.empty),.nl,.d (.bool false),.nl,.nl],flds:=[(0,3),(1,9),(2,42),(3,48)] }:=rfl
@[simp]theorem tb_78:tb 78=some { size:=1,bytes:=24,zero:=[.nl],sl:=some 5 }:=rfl
@[simp]theorem tb_81:tb 81=some { size:=1,bytes:=8,zero:=[.d .nilFn] }:=rfl
@[simp]theorem tb_83:tb 83=some { size:=1,bytes:=8,zero:=[.d .nilFn] }:=rfl
@[simp]theorem tb_86:tb 86=some { size:=1,bytes:=8,zero:=[.d .nilFn] }:=rfl
@[simp]theorem tb_87:tb 87=some { size:=1,bytes:=8,zero:=[.d .nilFn] }:=rfl
@[simp]theorem tb_88:tb 88=some { size:=1,bytes:=8,zero:=[.d .nilFn] }:=rfl
@[simp]theorem tb_89:tb 89=some { size:=1,bytes:=24,zero:=[.nl],sl:=some 4 }:=rfl
@[simp]theorem tb_92:tb 92=some { size:=1,bytes:=8,zero:=[.d (.lit (.map none))],mp:=true,mpi:=true }:=rfl
@[simp]theorem tb_96:tb 96=some { size:=1,bytes:=8,zero:=[.d .nilFn] }:=rfl
@[simp]theorem tb_98:tb 98=some { size:=1,bytes:=8,zero:=[.d .nilFn] }:=rfl
@[simp]theorem tb_99:tb 99=some { size:=1,bytes:=8,zero:=[.d .nilPtr] }:=rfl
@[simp]theorem tb_101:tb 101=some { agg:=true,size:=2,bytes:=32,zero:=[.d .nilPtr,.nl],flds:=[(0,99),(1,78)] }:=rfl
@[simp]theorem tb_104:tb 104=some { size:=1,bytes:=16,zero:=[.d (.lit .nilIface)] }:=rfl
@[simp]theorem tb_130:tb 130=some { agg:=true,size:=2,bytes:=16,zero:=[.d (.int .i64 0),.d (.int .i64 0)],flds:=[(0,3),(1,3)],flat:=true }:=rfl
@[simp]theorem tb_138:tb 138=some { size:=1,bytes:=24,zero:=[.nl],sl:=some 141 }:=rfl
@[simp]theorem tb_141:tb 141=some { agg:=true,size:=8,bytes:=144,zero:=[.d (.int .i64 0),.nl,.d (.bool false),.nl,.nl,.d (.int .i64 0),.nl,.nl],flds:=[(0,69),(7,26)] }:=rfl
@[simp]theorem tb_143:tb 143=some { size:=1,bytes:=24,zero:=[.nl],sl:=some 146 }:=rfl
@[simp]theorem tb_146:tb 146=some { agg:=true,size:=6,bytes:=112,zero:=[.d (.int .i64 0),.nl,.d (.bool false),.nl,.nl,.nl],flds:=[(0,50),(5,26)] }:=rfl
@[simp]theorem tb_149:tb 149=some { size:=1,bytes:=8,zero:=[.d (.int .u64 0)] }:=rfl
@[simp]theorem tb_152:tb 152=some { size:=1,bytes:=8,zero:=[.d .nilFn] }:=rfl
@[simp]theorem tb_153:tb 153=some { size:=1,bytes:=8,zero:=[.d .nilFn] }:=rfl
@[simp]theorem tb_155:tb 155=some { size:=1,bytes:=8,zero:=[.d .nilPtr] }:=rfl
@[simp]theorem tb_162:tb 162=some { size:=1,bytes:=24,zero:=[.nl],sl:=some 281 }:=rfl
@[simp]theorem tb_163:tb 163=some { size:=1,bytes:=8,zero:=[.d .nilFn] }:=rfl
@[simp]theorem tb_165:tb 165=some { agg:=true,size:=6,bytes:=104,zero:=[.d (.str ByteArray.empty),.nl,.nl,.nl,.d (.int .i64 0),.d .nilFn],flds:=[(0,9),(1,162),(2,162),(3,162),(4,3),(5,163)] }:=rfl
@[simp]theorem tb_170:tb 170=some { size:=1,bytes:=8,zero:=[.d .nilFn] }:=rfl
@[simp]theorem tb_173:tb 173=some { size:=1,bytes:=8,zero:=[.d .nilFn] }:=rfl
@[simp]theorem tb_177:tb 177=some { size:=1,bytes:=8,zero:=[.d (.int .u64 0)] }:=rfl
@[simp]theorem tb_180:tb 180=some { size:=1,bytes:=8,zero:=[.d .nilFn] }:=rfl
@[simp]theorem tb_188:tb 188=some { size:=1,bytes:=24,zero:=[.nl],sl:=some 191 }:=rfl
@[simp]theorem tb_191:tb 191=some { agg:=true,size:=7,bytes:=136,zero:=[.d (.int .i64 0),.nl,.d (.bool false),.nl,.nl,.nl,.nl],flds:=[(0,50),(5,42),(6,26)] }:=rfl
@[simp]theorem tb_193:tb 193=some { agg:=true,size:=1,bytes:=8,zero:=[.d .nilFn],flds:=[(0,81)] }:=rfl
@[simp]theorem tb_197:tb 197=some { size:=1,bytes:=8,zero:=[.d .nilFn] }:=rfl
@[simp]theorem tb_198:tb 198=some { size:=1,bytes:=8,zero:=[.d .nilFn] }:=rfl
@[simp]theorem tb_199:tb 199=some { size:=1,bytes:=8,zero:=[.d .nilFn] }:=rfl
@[simp]theorem tb_202:tb 202=some { size:=1,bytes:=8,zero:=[.d .nilFn] }:=rfl
@[simp]theorem tb_204:tb 204=some { size:=1,bytes:=8,zero:=[.d (.int .i64 0)] }:=rfl
@[simp]theorem tb_208:tb 208=some { size:=1,bytes:=8,zero:=[.d .nilFn] }:=rfl
@[simp]theorem tb_211:tb 211=some { size:=1,bytes:=4,zero:=[.d (.int .u32 0)] }:=rfl
@[simp]theorem tb_213:tb 213=some { size:=1,bytes:=8,zero:=[.d .nilFn] }:=rfl
@[simp]theorem tb_221:tb 221=some { size:=1,bytes:=8,zero:=[.d .nilFn] }:=rfl
@[simp]theorem tb_222:tb 222=some { size:=1,bytes:=8,zero:=[.d .nilPtr] }:=rfl
@[simp]theorem tb_224:tb 224=some { agg:=true,size:=6,bytes:=96,zero:=[.nl,.nl,.nl,.d (.int .i64 0),.d (.int .i64 0),.d (.int .i64 0)],flds:=[(0,22),(1,42),(2,22),(3,3),(4,3),(5,29)] }:=rfl
@[simp]theorem tb_231:tb 231=some { size:=1,bytes:=8,zero:=[.d .nilFn] }:=rfl
@[simp]theorem tb_234:tb 234=some { size:=1,bytes:=24,zero:=[.nl],sl:=some 260 }:=rfl
@[simp]theorem tb_236:tb 236=some { agg:=true,size:=4,bytes:=88,zero:=[.d (.str ByteArray.empty),.nl,.nl,.nl],flds:=[(0,9),(1,234),(2,234),(3,234)] }:=rfl
@[simp]theorem tb_245:tb 245=some { size:=1,bytes:=2,zero:=[.d (.int .u16 0)] }:=rfl
@[simp]theorem tb_248:tb 248=some { size:=1,bytes:=8,zero:=[.d .nilFn] }:=rfl
@[simp]theorem tb_249:tb 249=some { size:=1,bytes:=8,zero:=[.d .nilFn] }:=rfl
@[simp]theorem tb_250:tb 250=some { size:=1,bytes:=24,zero:=[.nl],sl:=some 130 }:=rfl
@[simp]theorem tb_251:tb 251=some { size:=1,bytes:=24,zero:=[.nl],sl:=some 255 }:=rfl
@[simp]theorem tb_255:tb 255=some { agg:=true,size:=6,bytes:=112,zero:=[.d (.int .i64 0),.nl,.d (.bool false),.nl,.nl,.nl],flds:=[(0,50),(5,26)] }:=rfl
@[simp]theorem tb_256:tb 256=some { size:=1,bytes:=24,zero:=[.nl],sl:=some 257 }:=rfl
@[simp]theorem tb_257:tb 257=some { size:=1,bytes:=24,zero:=[.nl],sl:=some 322 }:=rfl
@[simp]theorem tb_260:tb 260=some { agg:=true,size:=4,bytes:=40,zero:=[.d (.int .i64 0),.d (.str ByteArray.empty),.d (.bool false),.d (.int .i64 0)],flds:=[(0,3),(1,9),(2,4),(3,3)] }:=rfl
@[simp]theorem tb_261:tb 261=some { size:=1,bytes:=2,zero:=[.d (.int .i16 0)] }:=rfl
@[simp]theorem tb_263:tb 263=some { agg:=true,size:=26,bytes:=52,zero:=List.replicate 26 (.d (.int .i16 0)),arr:=some (26,261),flat:=true }:=rfl
@[simp]theorem tb_267:tb 267=some { size:=1,bytes:=24,zero:=[.nl],sl:=some 270 }:=rfl
@[simp]theorem tb_269:tb 269=some { agg:=true,size:=2,bytes:=16,zero:=[.d (.int .i64 0),.d (.int .i64 0)],arr:=some (2,3),flat:=true }:=rfl
@[simp]theorem tb_270:tb 270=some { agg:=true,size:=2,bytes:=16,zero:=[.d (.int .i64 0),.d (.int .i64 0)],arr:=some (2,3),flat:=true }:=rfl
@[simp]theorem tb_273:tb 273=some { size:=1,bytes:=8,zero:=[.d .nilFn] }:=rfl
@[simp]theorem tb_274:tb 274=some { agg:=true,size:=26,bytes:=208,zero:=List.replicate 26 (.d (.int .i64 0)),arr:=some (26,3),flat:=true }:=rfl
@[simp]theorem tb_275:tb 275=some { agg:=true,size:=2,bytes:=16,zero:=[.d (.int .i64 0),.d (.int .i64 0)],arr:=some (2,3),flat:=true }:=rfl
@[simp]theorem tb_276:tb 276=some { agg:=true,size:=52,bytes:=416,zero:=List.replicate 52 (.d (.int .i64 0)),arr:=some (26,275) }:=rfl
@[simp]theorem tb_278:tb 278=some { agg:=true,size:=78,bytes:=624,zero:=List.replicate 78 (.d (.int .i64 0)),flds:=[(0,274),(26,276)] }:=rfl
@[simp]theorem tb_281:tb 281=some { agg:=true,size:=3,bytes:=32,zero:=[.d (.int .i64 0),.d (.str ByteArray.empty),.d (.int .i64 0)],flds:=[(0,3),(1,9),(2,3)] }:=rfl
@[simp]theorem tb_282:tb 282=some { size:=1,bytes:=8,zero:=[.d .nilFn] }:=rfl
@[simp]theorem tb_290:tb 290=some { size:=1,bytes:=8,zero:=[.d .nilPtr] }:=rfl
@[simp]theorem tb_311:tb 311=some { size:=1,bytes:=8,zero:=[.d .nilFn] }:=rfl
@[simp]theorem tb_319:tb 319=some { size:=1,bytes:=24,zero:=[.nl],sl:=some 42 }:=rfl
@[simp]theorem tb_322:tb 322=some { agg:=true,size:=2,bytes:=32,zero:=[.d (.int .i64 0),.nl],flds:=[(0,3),(1,42)] }:=rfl
@[simp]theorem tb_340:tb 340=some { size:=1,bytes:=24,zero:=[.nl],sl:=some 342 }:=rfl
@[simp]theorem tb_342:tb 342=some { size:=1,bytes:=24,zero:=[.nl],sl:=some 275 }:=rfl
@[simp]theorem tb_354:tb 354=some { agg:=true,size:=2,bytes:=16,zero:=[.d (.int .i64 0),.d (.int .u16 0)],flds:=[(0,3),(1,245)],flat:=true }:=rfl
@[simp]theorem tb_378:tb 378=some { size:=1,bytes:=24,zero:=[.nl],sl:=some 381 }:=rfl
@[simp]theorem tb_381:tb 381=some { agg:=true,size:=5,bytes:=72,zero:=[.d (.int .i64 0),.d (.int .i64 0),.d (.bool false),.nl,.nl],flds:=[(0,3),(1,3),(2,48)] }:=rfl
end Go.Va
