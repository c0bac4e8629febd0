/- a part of the proof -/
import Derived.Test.YtljdeoefpialhaaGreatDoorHab
import Derived.Test.YtljdeoefpialhaaGreatDoorProg
set_option linter.all false
set_option maxRecDepth 20000
namespace Go.Va
open Go.Proofs
def Re:TI:={ size:=1,bytes:=8,zero:=[.d .nilFn] }
def Oa:TI:={ size:=1,bytes:=8,zero:=[.d (.int .i64 0)] }
def Pg:TI:={ size:=1,bytes:=8,zero:=[.d (.int .i64 0)] }
def Ri:TI:={ size:=1,bytes:=1,zero:=[.d (.bool false)] }
def O2:TI:={ size:=1,bytes:=1,zero:=[.d (.int .u8 0)] }
def N1:TI:={ size:=1,bytes:=1,zero:=[.d (.int .u8 0)] }
def Pv:TI:={ agg:=true,size:=4,bytes:=24,zero:=[.d (.int .i64 0),.d (.int .i64 0),.d (.bool false),.d (.int .u8 0)],flds:=[(0,2),(1,3),(2,4),(3,6)],flat:=true }
def OY:TI:={ agg:=true,size:=4,bytes:=24,zero:=[.d (.int .i64 0),.d (.int .i64 0),.d (.bool false),.d (.int .u8 0)],flds:=[(0,2),(1,3),(2,4),(3,6)],flat:=true }
def Pm:TI:={ size:=1,bytes:=16,zero:=[.d (.str ByteArray.empty)] }
def R5:TI:={ size:=1,bytes:=16,zero:=[.d (.str ByteArray.empty)] }
def Ps:TI:={ size:=1,bytes:=16,zero:=[.d (.str ByteArray.empty)] }
def R8:TI:={ size:=1,bytes:=8,zero:=[.d (.int .u64 0)] }
def TA:TI:={ size:=1,bytes:=16,zero:=[.d (.lit .nilIface)] }
def T5:TI:={ size:=1,bytes:=4,zero:=[.d (.int .i32 0)] }
def NY:TI:={ size:=1,bytes:=24,zero:=[.nl],sl:=some 53 }
def Se:TI:={ size:=1,bytes:=24,zero:=[.nl],sl:=some 48 }
def Pe:TI:={ agg:=true,size:=2,bytes:=48,zero:=[.nl,.nl],flds:=[(0,22),(1,23)] }
def jn1:TI:={ size:=1,bytes:=8,zero:=[.d .nilFn] }
def Pp:TI:={ size:=1,bytes:=8,zero:=[.d (.int .i64 0)] }
def RK:TI:={ size:=1,bytes:=24,zero:=[.nl],sl:=some 50 }
def ST:TI:={ size:=1,bytes:=24,zero:=[.nl],sl:=some 155 }
def NS:TI:={ agg:=true,size:=2,bytes:=48,zero:=[.nl,.nl],flds:=[(0,33),(1,34)] }
def OG:TI:={ size:=1,bytes:=24,zero:=[.nl],sl:=some 3 }
def O7:TI:={ size:=1,bytes:=24,zero:=[.nl],sl:=some 172 }
def P6:TI:={ size:=1,bytes:=24,zero:=[.nl],sl:=some 172 }
def Sn:TI:={ agg:=true,size:=2,bytes:=32,zero:=[.d (.bool false),.nl],flds:=[(0,4),(1,42)] }
def RQ:TI:={ agg:=true,size:=3,bytes:=56,zero:=[.d (.bool false),.nl,.nl],flds:=[(0,44),(2,42)] }
def PA:TI:={ agg:=true,size:=5,bytes:=88,zero:=[.d (.int .i64 0),.nl,.d (.bool false),.nl,.nl],flds:=[(0,3),(1,40),(2,46)] }
def Pf:TI:={ agg:=true,size:=7,bytes:=120,zero:=[.d (.int .i64 0),.nl,.d (.bool false),.nl,.nl,.d (.int .i64 0),.nl],flds:=[(0,48),(5,3),(6,40)] }
def On:TI:={ agg:=true,size:=6,bytes:=104,zero:=[.d (.int .i64 0),.d (.str ByteArray.empty),.nl,.d (.bool false),.nl,.nl],flds:=[(0,3),(1,9),(2,40),(3,46)] }
def Qn:TI:={ size:=1,bytes:=24,zero:=[.nl],sl:=some 5 }
def Og:TI:={ size:=1,bytes:=8,zero:=[.d .nilFn] }
def PE:TI:={ size:=1,bytes:=8,zero:=[.d .nilFn] }
def OD:TI:={ size:=1,bytes:=8,zero:=[.d (.lit (.map none))],mp:=true }
def jnu:TI:={ agg:=true,size:=1,bytes:=8,zero:=[.d .nilFn],flds:=[(0,60)] }
def jm2:TI:={ size:=1,bytes:=24,zero:=[.nl],sl:=some 89 }
def jnh:TI:={ agg:=true,size:=2,bytes:=16,zero:=[.d (.int .i64 0),.d (.int .i64 0)],arr:=some (2,3),flat:=true }
def jms:TI:={ size:=1,bytes:=8,zero:=[.d .nilFn] }
def jmV:TI:={ size:=1,bytes:=8,zero:=[.d .nilFn] }
def Qm:TI:={ size:=1,bytes:=8,zero:=[.d .nilFn] }
def ON:TI:={ size:=1,bytes:=8,zero:=[.d .nilFn] }
def jnR:TI:={ size:=1,bytes:=8,zero:=[.d .nilFn] }
def jnT:TI:={ size:=1,bytes:=8,zero:=[.d .nilPtr] }
def jn5:TI:={ agg:=true,size:=2,bytes:=32,zero:=[.d .nilPtr,.nl],flds:=[(0,118),(1,58)] }
def jnX:TI:={ size:=1,bytes:=16,zero:=[.d (.lit .nilIface)] }
def jne:TI:={ agg:=true,size:=2,bytes:=16,zero:=[.d (.int .i64 0),.d (.int .i64 0)],flds:=[(0,3),(1,3)],flat:=true }
def OT:TI:={ size:=1,bytes:=8,zero:=[.d (.int .u64 0)] }
def jmz:TI:={ size:=1,bytes:=24,zero:=[.nl],sl:=some 151 }
def jmo:TI:={ agg:=true,size:=6,bytes:=112,zero:=[.d (.int .i64 0),.nl,.d (.bool false),.nl,.nl,.nl],flds:=[(0,48),(5,34)] }
def P0:TI:={ agg:=true,size:=2,bytes:=32,zero:=[.d (.int .i64 0),.nl],flds:=[(0,3),(1,40)] }
def Tk:TI:={ size:=1,bytes:=8,zero:=[.d .nilFn] }
def O4:TI:={ size:=1,bytes:=8,zero:=[.d .nilFn] }
def P8:TI:={ size:=1,bytes:=8,zero:=[.d (.int .u64 0)] }
def RJ:TI:={ size:=1,bytes:=24,zero:=[.nl],sl:=some 33 }
def jmM:TI:={ size:=1,bytes:=2,zero:=[.d (.int .u16 0)] }
def jnq:TI:={ size:=1,bytes:=24,zero:=[.nl],sl:=some 9 }
def jn4:TI:={ size:=1,bytes:=8,zero:=[.d .nilPtr] }
def jni:TI:={ agg:=true,size:=4,bytes:=32,zero:=[.d (.int .i64 0),.d (.int .i64 0),.d (.int .i64 0),.d (.int .i64 0)],arr:=some (2,89) }
def jm4:TI:={ size:=1,bytes:=8,zero:=[.d .nilPtr] }
def jnz:TI:={ size:=1,bytes:=24,zero:=[.nl],sl:=some 198 }
def jmB:TI:={ size:=1,bytes:=24,zero:=[.nl],sl:=some 257 }
def PC:TI:={ size:=1,bytes:=8,zero:=[.d .nilFn] }
def jm0:TI:={ agg:=true,size:=6,bytes:=104,zero:=[.d (.str ByteArray.empty),.nl,.nl,.nl,.d (.int .i64 0),.d .nilFn],flds:=[(0,9),(1,202),(2,202),(3,202),(4,3),(5,203)] }
def jmZ:TI:={ size:=1,bytes:=8,zero:=[.d .nilFn] }
def Qq:TI:={ size:=1,bytes:=8,zero:=[.d .nilFn] }
def jmm:TI:={ size:=1,bytes:=8,zero:=[.d .nilFn] }
def So:TI:={ size:=1,bytes:=8,zero:=[.d .nilFn] }
def QZ:TI:={ size:=1,bytes:=24,zero:=[.nl],sl:=some 34 }
def jmY:TI:={ size:=1,bytes:=8,zero:=[.d (.int .i64 0)] }
def Um:TI:={ size:=1,bytes:=4,zero:=[.d (.int .u32 0)] }
def jnU:TI:={ size:=1,bytes:=8,zero:=[.d .nilFn] }
def jn2:TI:={ agg:=true,size:=2,bytes:=16,zero:=[.d (.int .i64 0),.d (.int .u16 0)],flds:=[(0,3),(1,172)],flat:=true }
def jnA:TI:={ size:=1,bytes:=24,zero:=[.nl],sl:=some 130 }
def jmA:TI:={ size:=1,bytes:=8,zero:=[.d .nilFn] }
def Sr:TI:={ agg:=true,size:=26,bytes:=208,zero:=List.replicate 26 (.d (.int .i64 0)),arr:=some (26,3),flat:=true }
def RI:TI:={ agg:=true,size:=2,bytes:=16,zero:=[.d (.int .i64 0),.d (.int .i64 0)],arr:=some (2,3),flat:=true }
def SE:TI:={ agg:=true,size:=52,bytes:=416,zero:=List.replicate 52 (.d (.int .i64 0)),arr:=some (26,251) }
def OM:TI:={ agg:=true,size:=78,bytes:=624,zero:=List.replicate 78 (.d (.int .i64 0)),flds:=[(0,250),(26,252)] }
def P7:TI:={ agg:=true,size:=3,bytes:=32,zero:=[.d (.int .i64 0),.d (.str ByteArray.empty),.d (.int .i64 0)],flds:=[(0,3),(1,9),(2,3)] }
def jmw:TI:={ size:=1,bytes:=8,zero:=[.d .nilFn] }
def jnY:TI:={ size:=1,bytes:=8,zero:=[.d (.int .u64 0)] }
def UA:TI:={ size:=1,bytes:=8,zero:=[.d .nilPtr] }
def jnt:TI:={ size:=1,bytes:=24,zero:=[.nl],sl:=some 44 }
def jnS:TI:={ agg:=true,size:=24,bytes:=24,zero:=List.replicate 24 (.d (.int .u8 0)),arr:=some (24,5),flat:=true }
def SN:TI:={ size:=1,bytes:=24,zero:=[.nl],sl:=some 294 }
def Su:TI:={ size:=1,bytes:=24,zero:=[.nl],sl:=some 251 }
def jnV:TI:={ size:=1,bytes:=8,zero:=[.d .nilPtr] }
def jnW:TI:={ agg:=true,size:=20,bytes:=160,zero:=List.replicate 20 (.d (.int .u64 0)),arr:=some (20,142),flat:=true }
def jnZ:TI:={ agg:=true,size:=65,bytes:=65,zero:=List.replicate 65 (.d (.int .u8 0)),arr:=some (65,5),flat:=true }
def jn0:TI:={ agg:=true,size:=32,bytes:=32,zero:=List.replicate 32 (.d (.int .u8 0)),arr:=some (32,5),flat:=true }
def jn3:TI:={ agg:=true,size:=64,bytes:=64,zero:=List.replicate 64 (.d (.int .u8 0)),arr:=some (64,5),flat:=true }
def I9:List (Option TI):=[none,some Re,some Oa,some Pg,some Ri,some O2,some N1,some Pv,some OY,some Pm,some R5,some Ps,some R8,none,none,none,none,none,none,none,some TA,some T5,some NY,some Se,none,some Pe,none,some jn1,some Pp,none,none,none,none,some RK,some ST,none,some NS,none,none,none,some OG,some O7,some P6,none,some Sn,none,some RQ,none,some PA,none,some Pf,none,none,some On,none,none,none,none,some Qn,none,some Og,some PE,none,none,none,none,none,none,none,none,none,none,some OD,none,none,none,none,none,none,none,none,none,none,some jnu,none,none,some jm2,none,none,some jnh,none,some jms,none,none,none,none,none,none,none,none,some jmV,none,some Qm,none,none,none,none,none,none,none,some ON,none,none,none,some jnR,none,none,none,some jnT,none,some jn5,none,some jnX,none,none,none,none,none,none,none,some jne,none,none,none,none,none,none,none,none,none,none,none,some OT,none,none,none,none,none,some jmz,none,none,some jmo,none,none,none,some P0,none,some Tk,none,some O4,none,none,some P8,some RJ,none,none,none,none,none,none,none,none,some jmM,none,none,none,some jnq,none,none,none,none,none,some jn4,none,none,none,none,none,none,none,none,none,none,none,none,none,none,some jni,some jm4,some jnz,none,none,some jmB,some PC,none,some jm0,none,none,none,some jmZ,none,some Qq,some jmm,none,none,some So,some QZ,none,none,none,some jmY,none,none,none,none,none,none,some Um,none,none,some jnU,none,some jn2,none,none,none,none,none,none,none,none,some jnA,none,none,none,none,none,none,none,some jmA,some Sr,some RI,some SE,none,some OM,none,none,some P7,some jmw,none,none,none,none,none,none,none,none,some jnY,none,none,none,some UA,none,none,none,some jnt,some jnS,none,none,none,none,none,none,none,none,none,none,none,none,none,none,none,some SN,none,some Su,none,none,none,none,none,none,none,none,some jnV,none,none,none,none,none,some jnW,some jnZ,none,none,none,none,none,none,none,none,none,none,none,none,none,some jn0,some jn3]
def tb:AH:=fun t=>(I9[t]?).join
def H1(P:Program):Nat→List (Option TI)→Bool
 |_,[]=>true
 |k,o::r=>(match o with|some i=>HB P k i|none=>true)&&H1 P (k+1) r
theorem PH{P:Program}: ∀(l:List (Option TI)) (k:Nat),H1 P k l=true→ ∀t i,l[t]? =some (some i)→HB P (k+t) i=true
 |[],_,_,_,_,h=>by simp at h
 |o::r,k,hb,0,i,h=>by
  simp only[List.getElem?_cons_zero,Option.some.injEq]at h;subst h;unfold H1 at hb
  simpa using (AR _ _ ▸ hb).1
 |o::r,k,hb,t+1,i,h=>by
  unfold H1 at hb;have:=PH r (k+1) (by simpa using (AR _ _ ▸ hb).2) t i (by simpa using h)
  rwa [show k+1+t=k+(t+1) by omega]at this
theorem jea:H1 Tryz.prog 0 I9=true:=by kernel_rfl
theorem Ak:A5 Tryz.prog tb:=fun t i h=>by
 have:=PH I9 0 jea t i (by unfold tb at h;cases hx:I9[t]? <;>simp[hx]at h;rw[h])
 rwa [Nat.zero_add]at this
theorem mixed:Tryz.prog.follows .mixedOrders=true:=by kernel_rfl
@[simp]theorem tb_1:tb 1=some { size:=1,bytes:=8,zero:=[.d .nilFn] }:=rfl
@[simp]theorem tb_2:tb 2=some { size:=1,bytes:=8,zero:=[.d (.int .i64 0)] }:=rfl
@[simp]theorem tb_3:tb 3=some { size:=1,bytes:=8,zero:=[.d (.int .i64 0)] }:=rfl
@[simp]theorem tb_4:tb 4=some { size:=1,bytes:=1,zero:=[.d (.bool false)] }:=rfl
@[simp]theorem tb_5:tb 5=some { size:=1,bytes:=1,zero:=[.d (.int .u8 0)] }:=rfl
@[simp]theorem tb_6:tb 6=some { size:=1,bytes:=1,zero:=[.d (.int .u8 0)] }:=rfl
@[simp]theorem tb_7:tb 7=some { agg:=true,size:=4,bytes:=24,zero:=[.d (.int .i64 0),.d (.int .i64 0),.d (.bool false),.d (.int .u8 0)],flds:=[(0,2),(1,3),(2,4),(3,6)],flat:=true }:=rfl
@[simp]theorem tb_8:tb 8=some { agg:=true,size:=4,bytes:=24,zero:=[.d (.int .i64 0),.d (.int .i64 0),.d (.bool false),.d (.int .u8 0)],flds:=[(0,2),(1,3),(2,4),(3,6)],flat:=true }:=rfl
@[simp]theorem tb_9:tb 9=some { size:=1,bytes:=16,zero:=[.d (.str ByteArray.empty)] }:=rfl
@[simp]theorem tb_10:tb 10=some { size:=1,bytes:=16,zero:=[.d (.str ByteArray.empty)] }:=rfl
@[simp]theorem tb_11:tb 11=some { size:=1,bytes:=16,zero:=[.d (.str ByteArray.empty)] }:=rfl
@[simp]theorem tb_12:tb 12=some { size:=1,bytes:=8,zero:=[.d (.int .u64 0)] }:=rfl
@[simp]theorem tb_20:tb 20=some { size:=1,bytes:=16,zero:=[.d (.lit .nilIface)] }:=rfl
@[simp]theorem tb_21:tb 21=some { size:=1,bytes:=4,zero:=[.d (.int .i32 0)] }:=rfl
@[simp]theorem tb_22:tb 22=some { size:=1,bytes:=24,zero:=[.nl],sl:=some 53 }:=rfl
@[simp]theorem tb_23:tb 23=some { size:=1,bytes:=24,zero:=[.nl],sl:=some 48 }:=rfl
@[simp]theorem tb_25:tb 25=some { agg:=true,size:=2,bytes:=48,zero:=[.nl,.nl],flds:=[(0,22),(1,23)] }:=rfl
@[simp]theorem tb_27:tb 27=some { size:=1,bytes:=8,zero:=[.d .nilFn] }:=rfl
@[simp]theorem tb_28:tb 28=some { size:=1,bytes:=8,zero:=[.d (.int .i64 0)] }:=rfl
@[simp]theorem tb_33:tb 33=some { size:=1,bytes:=24,zero:=[.nl],sl:=some 50 }:=rfl
@[simp]theorem tb_34:tb 34=some { size:=1,bytes:=24,zero:=[.nl],sl:=some 155 }:=rfl
@[simp]theorem tb_36:tb 36=some { agg:=true,size:=2,bytes:=48,zero:=[.nl,.nl],flds:=[(0,33),(1,34)] }:=rfl
@[simp]theorem tb_40:tb 40=some { size:=1,bytes:=24,zero:=[.nl],sl:=some 3 }:=rfl
@[simp]theorem tb_41:tb 41=some { size:=1,bytes:=24,zero:=[.nl],sl:=some 172 }:=rfl
@[simp]theorem tb_42:tb 42=some { size:=1,bytes:=24,zero:=[.nl],sl:=some 172 }:=rfl
@[simp]theorem tb_44:tb 44=some { agg:=true,size:=2,bytes:=32,zero:=[.d (.bool false),.nl],flds:=[(0,4),(1,42)] }:=rfl
@[simp]theorem tb_46:tb 46=some { agg:=true,size:=3,bytes:=56,zero:=[.d (.bool false),.nl,.nl],flds:=[(0,44),(2,42)] }:=rfl
@[simp]theorem tb_48:tb 48=some { agg:=true,size:=5,bytes:=88,zero:=[.d (.int .i64 0),.nl,.d (.bool false),.nl,.nl],flds:=[(0,3),(1,40),(2,46)] }:=rfl
@[simp]theorem tb_50:tb 50=some { agg:=true,size:=7,bytes:=120,zero:=[.d (.int .i64 0),.nl,.d (.bool false),.nl,.nl,.d (.int .i64 0),.nl],flds:=[(0,48),(5,3),(6,40)] }:=rfl
@[simp]theorem tb_53:tb 53=some { agg:=true,size:=6,bytes:=104,zero:=[.d (.int .i64 0),.d (.str ByteArray.empty),.nl,.d (.bool false),.nl,.nl],flds:=[(0,3),(1,9),(2,40),(3,46)] }:=rfl
@[simp]theorem tb_58:tb 58=some { size:=1,bytes:=24,zero:=[.nl],sl:=some 5 }:=rfl
@[simp]theorem tb_60:tb 60=some { size:=1,bytes:=8,zero:=[.d .nilFn] }:=rfl
@[simp]theorem tb_61:tb 61=some { size:=1,bytes:=8,zero:=[.d .nilFn] }:=rfl
@[simp]theorem tb_72:tb 72=some { size:=1,bytes:=8,zero:=[.d (.lit (.map none))],mp:=true }:=rfl
@[simp]theorem tb_83:tb 83=some { agg:=true,size:=1,bytes:=8,zero:=[.d .nilFn],flds:=[(0,60)] }:=rfl
@[simp]theorem tb_86:tb 86=some { size:=1,bytes:=24,zero:=[.nl],sl:=some 89 }:=rfl
@[simp]theorem tb_89:tb 89=some { agg:=true,size:=2,bytes:=16,zero:=[.d (.int .i64 0),.d (.int .i64 0)],arr:=some (2,3),flat:=true }:=rfl
@[simp]theorem tb_91:tb 91=some { size:=1,bytes:=8,zero:=[.d .nilFn] }:=rfl
@[simp]theorem tb_100:tb 100=some { size:=1,bytes:=8,zero:=[.d .nilFn] }:=rfl
@[simp]theorem tb_102:tb 102=some { size:=1,bytes:=8,zero:=[.d .nilFn] }:=rfl
@[simp]theorem tb_110:tb 110=some { size:=1,bytes:=8,zero:=[.d .nilFn] }:=rfl
@[simp]theorem tb_114:tb 114=some { size:=1,bytes:=8,zero:=[.d .nilFn] }:=rfl
@[simp]theorem tb_118:tb 118=some { size:=1,bytes:=8,zero:=[.d .nilPtr] }:=rfl
@[simp]theorem tb_120:tb 120=some { agg:=true,size:=2,bytes:=32,zero:=[.d .nilPtr,.nl],flds:=[(0,118),(1,58)] }:=rfl
@[simp]theorem tb_122:tb 122=some { size:=1,bytes:=16,zero:=[.d (.lit .nilIface)] }:=rfl
@[simp]theorem tb_130:tb 130=some { agg:=true,size:=2,bytes:=16,zero:=[.d (.int .i64 0),.d (.int .i64 0)],flds:=[(0,3),(1,3)],flat:=true }:=rfl
@[simp]theorem tb_142:tb 142=some { size:=1,bytes:=8,zero:=[.d (.int .u64 0)] }:=rfl
@[simp]theorem tb_148:tb 148=some { size:=1,bytes:=24,zero:=[.nl],sl:=some 151 }:=rfl
@[simp]theorem tb_151:tb 151=some { agg:=true,size:=6,bytes:=112,zero:=[.d (.int .i64 0),.nl,.d (.bool false),.nl,.nl,.nl],flds:=[(0,48),(5,34)] }:=rfl
@[simp]theorem tb_155:tb 155=some { agg:=true,size:=2,bytes:=32,zero:=[.d (.int .i64 0),.nl],flds:=[(0,3),(1,40)] }:=rfl
@[simp]theorem tb_157:tb 157=some { size:=1,bytes:=8,zero:=[.d .nilFn] }:=rfl
@[simp]theorem tb_159:tb 159=some { size:=1,bytes:=8,zero:=[.d .nilFn] }:=rfl
@[simp]theorem tb_162:tb 162=some { size:=1,bytes:=8,zero:=[.d (.int .u64 0)] }:=rfl
@[simp]theorem tb_163:tb 163=some { size:=1,bytes:=24,zero:=[.nl],sl:=some 33 }:=rfl
@[simp]theorem tb_172:tb 172=some { size:=1,bytes:=2,zero:=[.d (.int .u16 0)] }:=rfl
@[simp]theorem tb_176:tb 176=some { size:=1,bytes:=24,zero:=[.nl],sl:=some 9 }:=rfl
@[simp]theorem tb_182:tb 182=some { size:=1,bytes:=8,zero:=[.d .nilPtr] }:=rfl
@[simp]theorem tb_197:tb 197=some { agg:=true,size:=4,bytes:=32,zero:=[.d (.int .i64 0),.d (.int .i64 0),.d (.int .i64 0),.d (.int .i64 0)],arr:=some (2,89) }:=rfl
@[simp]theorem tb_198:tb 198=some { size:=1,bytes:=8,zero:=[.d .nilPtr] }:=rfl
@[simp]theorem tb_199:tb 199=some { size:=1,bytes:=24,zero:=[.nl],sl:=some 198 }:=rfl
@[simp]theorem tb_202:tb 202=some { size:=1,bytes:=24,zero:=[.nl],sl:=some 257 }:=rfl
@[simp]theorem tb_203:tb 203=some { size:=1,bytes:=8,zero:=[.d .nilFn] }:=rfl
@[simp]theorem tb_205:tb 205=some { agg:=true,size:=6,bytes:=104,zero:=[.d (.str ByteArray.empty),.nl,.nl,.nl,.d (.int .i64 0),.d .nilFn],flds:=[(0,9),(1,202),(2,202),(3,202),(4,3),(5,203)] }:=rfl
@[simp]theorem tb_209:tb 209=some { size:=1,bytes:=8,zero:=[.d .nilFn] }:=rfl
@[simp]theorem tb_211:tb 211=some { size:=1,bytes:=8,zero:=[.d .nilFn] }:=rfl
@[simp]theorem tb_212:tb 212=some { size:=1,bytes:=8,zero:=[.d .nilFn] }:=rfl
@[simp]theorem tb_215:tb 215=some { size:=1,bytes:=8,zero:=[.d .nilFn] }:=rfl
@[simp]theorem tb_216:tb 216=some { size:=1,bytes:=24,zero:=[.nl],sl:=some 34 }:=rfl
@[simp]theorem tb_220:tb 220=some { size:=1,bytes:=8,zero:=[.d (.int .i64 0)] }:=rfl
@[simp]theorem tb_227:tb 227=some { size:=1,bytes:=4,zero:=[.d (.int .u32 0)] }:=rfl
@[simp]theorem tb_230:tb 230=some { size:=1,bytes:=8,zero:=[.d .nilFn] }:=rfl
@[simp]theorem tb_232:tb 232=some { agg:=true,size:=2,bytes:=16,zero:=[.d (.int .i64 0),.d (.int .u16 0)],flds:=[(0,3),(1,172)],flat:=true }:=rfl
@[simp]theorem tb_241:tb 241=some { size:=1,bytes:=24,zero:=[.nl],sl:=some 130 }:=rfl
@[simp]theorem tb_249:tb 249=some { size:=1,bytes:=8,zero:=[.d .nilFn] }:=rfl
@[simp]theorem tb_250:tb 250=some { agg:=true,size:=26,bytes:=208,zero:=List.replicate 26 (.d (.int .i64 0)),arr:=some (26,3),flat:=true }:=rfl
@[simp]theorem tb_251:tb 251=some { agg:=true,size:=2,bytes:=16,zero:=[.d (.int .i64 0),.d (.int .i64 0)],arr:=some (2,3),flat:=true }:=rfl
@[simp]theorem tb_252:tb 252=some { agg:=true,size:=52,bytes:=416,zero:=List.replicate 52 (.d (.int .i64 0)),arr:=some (26,251) }:=rfl
@[simp]theorem tb_254:tb 254=some { agg:=true,size:=78,bytes:=624,zero:=List.replicate 78 (.d (.int .i64 0)),flds:=[(0,250),(26,252)] }:=rfl
@[simp]theorem tb_257:tb 257=some { agg:=true,size:=3,bytes:=32,zero:=[.d (.int .i64 0),.d (.str ByteArray.empty),.d (.int .i64 0)],flds:=[(0,3),(1,9),(2,3)] }:=rfl
@[simp]theorem tb_258:tb 258=some { size:=1,bytes:=8,zero:=[.d .nilFn] }:=rfl
@[simp]theorem tb_267:tb 267=some { size:=1,bytes:=8,zero:=[.d (.int .u64 0)] }:=rfl
@[simp]theorem tb_271:tb 271=some { size:=1,bytes:=8,zero:=[.d .nilPtr] }:=rfl
@[simp]theorem tb_275:tb 275=some { size:=1,bytes:=24,zero:=[.nl],sl:=some 44 }:=rfl
@[simp]theorem tb_276:tb 276=some { agg:=true,size:=24,bytes:=24,zero:=List.replicate 24 (.d (.int .u8 0)),arr:=some (24,5),flat:=true }:=rfl
@[simp]theorem tb_292:tb 292=some { size:=1,bytes:=24,zero:=[.nl],sl:=some 294 }:=rfl
@[simp]theorem tb_294:tb 294=some { size:=1,bytes:=24,zero:=[.nl],sl:=some 251 }:=rfl
@[simp]theorem tb_303:tb 303=some { size:=1,bytes:=8,zero:=[.d .nilPtr] }:=rfl
@[simp]theorem tb_309:tb 309=some { agg:=true,size:=20,bytes:=160,zero:=List.replicate 20 (.d (.int .u64 0)),arr:=some (20,142),flat:=true }:=rfl
@[simp]theorem tb_310:tb 310=some { agg:=true,size:=65,bytes:=65,zero:=List.replicate 65 (.d (.int .u8 0)),arr:=some (65,5),flat:=true }:=rfl
@[simp]theorem tb_324:tb 324=some { agg:=true,size:=32,bytes:=32,zero:=List.replicate 32 (.d (.int .u8 0)),arr:=some (32,5),flat:=true }:=rfl
@[simp]theorem tb_325:tb 325=some { agg:=true,size:=64,bytes:=64,zero:=List.replicate 64 (.d (.int .u8 0)),arr:=some (64,5),flat:=true }:=rfl
end Go.Va
