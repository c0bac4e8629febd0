/- a part of the proof -/
import Derived.Test.YtkfdniccmcolgaaGreatWab
import Derived.Test.YtkfdniccmcolgaaGreatProg
set_option linter.all false
set_option maxRecDepth 20000
namespace Go.Va
open Go.Proofs
def jjk:TI:={ size:=1,bytes:=8,zero:=[.d .nilFn] }
def jji:TI:={ size:=1,bytes:=8,zero:=[.d (.int .i64 0)] }
def jdf:TI:={ size:=1,bytes:=8,zero:=[.d (.int .i64 0)] }
def Yu:TI:={ size:=1,bytes:=1,zero:=[.d (.bool false)] }
def jeH:TI:={ size:=1,bytes:=1,zero:=[.d (.int .u8 0)] }
def jjq:TI:={ size:=1,bytes:=1,zero:=[.d (.int .u8 0)] }
def jjj:TI:={ agg:=true,size:=4,bytes:=24,zero:=[.d (.int .i64 0),.d (.int .i64 0),.d (.bool false),.d (.int .u8 0)],flds:=[(0,2),(1,3),(2,4),(3,6)],flat:=true }
def jjs:TI:={ agg:=true,size:=4,bytes:=24,zero:=[.d (.int .i64 0),.d (.int .i64 0),.d (.bool false),.d (.int .u8 0)],flds:=[(0,2),(1,3),(2,4),(3,6)],flat:=true }
def jez:TI:={ size:=1,bytes:=16,zero:=[.d (.str ByteArray.empty)] }
def jjc:TI:={ size:=1,bytes:=16,zero:=[.d (.str ByteArray.empty)] }
def jjp:TI:={ size:=1,bytes:=16,zero:=[.d (.str ByteArray.empty)] }
def ji5:TI:={ size:=1,bytes:=8,zero:=[.d (.int .u64 0)] }
def W6:TI:={ size:=1,bytes:=4,zero:=[.d (.int .i32 0)] }
def jdo:TI:={ size:=1,bytes:=24,zero:=[.nl],sl:=some 39 }
def jjd:TI:={ size:=1,bytes:=8,zero:=[.d .nilFn] }
def YI:TI:={ size:=1,bytes:=24,zero:=[.nl],sl:=some 60 }
def Yp:TI:={ size:=1,bytes:=24,zero:=[.nl],sl:=some 3 }
def Yq:TI:={ size:=1,bytes:=24,zero:=[.nl],sl:=some 139 }
def jaO:TI:={ agg:=true,size:=2,bytes:=32,zero:=[.d (.bool false),.nl],flds:=[(0,4),(1,33)] }
def jcO:TI:={ agg:=true,size:=3,bytes:=56,zero:=[.d (.bool false),.nl,.nl],flds:=[(0,35),(2,33)] }
def jai:TI:={ agg:=true,size:=5,bytes:=88,zero:=[.d (.int .i64 0),.nl,.d (.bool false),.nl,.nl],flds:=[(0,3),(1,31),(2,37)] }
def jjb:TI:={ size:=1,bytes:=8,zero:=[.d (.int .i64 0)] }
def jgr:TI:={ agg:=true,size:=2,bytes:=32,zero:=[.d (.int .i64 0),.nl],flds:=[(0,3),(1,31)] }
def Xe:TI:={ size:=1,bytes:=24,zero:=[.nl],sl:=some 64 }
def jec:TI:={ agg:=true,size:=6,bytes:=112,zero:=[.d (.int .i64 0),.nl,.d (.bool false),.nl,.nl,.nl],flds:=[(0,39),(5,25)] }
def jhI:TI:={ size:=1,bytes:=24,zero:=[.nl],sl:=some 69 }
def Zt:TI:={ agg:=true,size:=6,bytes:=112,zero:=[.d (.int .i64 0),.nl,.d (.bool false),.nl,.nl,.nl],flds:=[(0,39),(5,25)] }
def jjr:TI:={ size:=1,bytes:=8,zero:=[.d .nilFn] }
def X2:TI:={ size:=1,bytes:=8,zero:=[.d .nilFn] }
def jhK:TI:={ size:=1,bytes:=24,zero:=[.nl],sl:=some 155 }
def W5:TI:={ size:=1,bytes:=8,zero:=[.d .nilFn] }
def Zi:TI:={ agg:=true,size:=6,bytes:=104,zero:=[.d (.str ByteArray.empty),.nl,.nl,.nl,.d (.int .i64 0),.d .nilFn],flds:=[(0,9),(1,74),(2,74),(3,74),(4,3),(5,75)] }
def Ys:TI:={ size:=1,bytes:=24,zero:=[.nl],sl:=some 177 }
def Z7:TI:={ agg:=true,size:=4,bytes:=88,zero:=[.d (.str ByteArray.empty),.nl,.nl,.nl],flds:=[(0,9),(1,79),(2,79),(3,79)] }
def ZU:TI:={ size:=1,bytes:=8,zero:=[.d (.int .u64 0)] }
def jbJ:TI:={ size:=1,bytes:=8,zero:=[.d .nilFn] }
def jja:TI:={ size:=1,bytes:=8,zero:=[.d .nilFn] }
def jcX:TI:={ size:=1,bytes:=8,zero:=[.d .nilFn] }
def ji8:TI:={ size:=1,bytes:=8,zero:=[.d .nilFn] }
def jjg:TI:={ size:=1,bytes:=8,zero:=[.d .nilFn] }
def jjf:TI:={ size:=1,bytes:=8,zero:=[.d .nilFn] }
def jdi:TI:={ size:=1,bytes:=2,zero:=[.d (.int .i16 0)] }
def jfE:TI:={ agg:=true,size:=26,bytes:=52,zero:=List.replicate 26 (.d (.int .i16 0)),arr:=some (26,111),flat:=true }
def jej:TI:={ agg:=true,size:=1,bytes:=8,zero:=[.d .nilFn],flds:=[(0,72)] }
def jbi:TI:={ size:=1,bytes:=2,zero:=[.d (.int .u16 0)] }
def Y3:TI:={ size:=1,bytes:=24,zero:=[.nl],sl:=some 144 }
def jdk:TI:={ agg:=true,size:=2,bytes:=16,zero:=[.d (.int .i64 0),.d (.int .i64 0)],arr:=some (2,3),flat:=true }
def jfx:TI:={ agg:=true,size:=2,bytes:=16,zero:=[.d (.int .i64 0),.d (.int .i64 0)],arr:=some (2,3),flat:=true }
def jaj:TI:={ size:=1,bytes:=8,zero:=[.d .nilFn] }
def jhk:TI:={ agg:=true,size:=26,bytes:=208,zero:=List.replicate 26 (.d (.int .i64 0)),arr:=some (26,3),flat:=true }
def Xi:TI:={ agg:=true,size:=2,bytes:=16,zero:=[.d (.int .i64 0),.d (.int .i64 0)],arr:=some (2,3),flat:=true }
def jf1:TI:={ agg:=true,size:=52,bytes:=416,zero:=List.replicate 52 (.d (.int .i64 0)),arr:=some (26,149) }
def jdU:TI:={ agg:=true,size:=78,bytes:=624,zero:=List.replicate 78 (.d (.int .i64 0)),flds:=[(0,148),(26,150)] }
def jeT:TI:={ agg:=true,size:=3,bytes:=32,zero:=[.d (.int .i64 0),.d (.str ByteArray.empty),.d (.int .i64 0)],flds:=[(0,3),(1,9),(2,3)] }
def ji9:TI:={ size:=1,bytes:=8,zero:=[.d .nilFn] }
def ji6:TI:={ size:=1,bytes:=8,zero:=[.d (.int .u64 0)] }
def jg0:TI:={ agg:=true,size:=2,bytes:=16,zero:=[.d (.int .i64 0),.d (.int .i64 0)],flds:=[(0,3),(1,3)],flat:=true }
def jcF:TI:={ size:=1,bytes:=24,zero:=[.nl],sl:=some 172 }
def jfZ:TI:={ agg:=true,size:=5,bytes:=72,zero:=[.d (.int .i64 0),.d (.int .i64 0),.d (.bool false),.nl,.nl],flds:=[(0,3),(1,3),(2,37)] }
def Zu:TI:={ agg:=true,size:=4,bytes:=40,zero:=[.d (.int .i64 0),.d (.str ByteArray.empty),.d (.bool false),.d (.int .i64 0)],flds:=[(0,3),(1,9),(2,4),(3,3)] }
def YE:TI:={ size:=1,bytes:=24,zero:=[.nl],sl:=some 31 }
def jjm:TI:={ size:=1,bytes:=8,zero:=[.d .nilFn] }
def jbR:TI:={ size:=1,bytes:=24,zero:=[.nl],sl:=some 213 }
def jgX:TI:={ size:=1,bytes:=24,zero:=[.nl],sl:=some 149 }
def jjn:TI:={ size:=1,bytes:=8,zero:=[.d (.int .i64 0)] }
def jdT:TI:={ size:=1,bytes:=4,zero:=[.d (.int .u32 0)] }
def jdM:TI:={ agg:=true,size:=4,bytes:=32,zero:=[.d (.int .i64 0),.d (.int .i64 0),.d (.int .i64 0),.d (.int .i64 0)],arr:=some (2,144) }
def jgC:TI:={ size:=1,bytes:=8,zero:=[.d .nilPtr] }
def jeX:TI:={ size:=1,bytes:=24,zero:=[.nl],sl:=some 244 }
def jje:TI:={ size:=1,bytes:=8,zero:=[.d .nilPtr] }
def jjo:TI:={ size:=1,bytes:=8,zero:=[.d (.int .u64 0)] }
def jdY:TI:={ size:=1,bytes:=24,zero:=[.nl],sl:=some 165 }
def jjl:TI:={ agg:=true,size:=2,bytes:=16,zero:=[.d (.int .i64 0),.d (.int .u16 0)],flds:=[(0,3),(1,139)],flat:=true }
def ji7:TI:={ size:=1,bytes:=8,zero:=[.d .nilPtr] }
def jjh:TI:={ size:=1,bytes:=8,zero:=[.d .nilPtr] }
def YK:TI:={ agg:=true,size:=4,bytes:=32,zero:=[.d (.int .i64 0),.d (.int .i64 0),.d (.int .i64 0),.d (.int .i64 0)],arr:=some (4,3),flat:=true }
def jdQ:TI:={ agg:=true,size:=32,bytes:=256,zero:=List.replicate 32 (.d (.int .i64 0)),arr:=some (8,286) }
def Lz:List (Option TI):=[none,some jjk,some jji,some jdf,some Yu,some jeH,some jjq,some jjj,some jjs,some jez,some jjc,some jjp,some ji5,none,none,none,none,none,none,none,none,some W6,some jdo,none,some jjd,some YI,none,none,none,none,none,some Yp,none,some Yq,none,some jaO,none,some jcO,none,some jai,none,none,none,none,none,none,none,none,none,none,some jjb,none,none,none,none,none,none,none,none,none,some jgr,some Xe,none,none,some jec,none,some jhI,none,none,some Zt,none,some jjr,some X2,none,some jhK,some W5,none,some Zi,none,some Ys,none,some Z7,none,none,none,none,none,none,none,none,none,none,none,none,none,none,none,some ZU,some jbJ,none,none,some jja,some jcX,some ji8,none,none,some jjg,none,none,some jjf,none,some jdi,none,some jfE,none,none,none,some jej,none,none,none,none,none,none,none,none,none,none,none,none,none,none,none,none,none,none,none,none,none,some jbi,none,some Y3,none,some jdk,some jfx,none,none,some jaj,some jhk,some Xi,some jf1,none,some jdU,none,none,some jeT,some ji9,none,none,none,none,some ji6,none,none,none,some jg0,none,none,none,some jcF,none,none,some jfZ,none,none,none,none,some Zu,none,some YE,none,none,none,none,none,none,none,none,none,none,none,none,none,none,none,none,none,none,none,none,some jjm,none,none,none,none,none,none,none,none,none,none,some jbR,none,some jgX,none,none,none,none,some jjn,none,none,none,none,none,none,none,some jdT,none,none,none,none,none,none,none,none,none,none,none,none,none,none,none,none,some jdM,some jgC,some jeX,none,none,none,none,none,none,some jje,none,none,none,some jjo,none,none,none,none,none,none,some jdY,none,none,none,none,none,none,none,some jjl,none,none,none,some ji7,none,none,none,none,none,none,some jjh,none,none,none,some YK,some jdQ]
def tb:At:=fun t=>(Lz[t]?).join
def JO(P:Program):Nat→List (Option TI)→Bool
 |_,[]=>true
 |k,o::r=>(match o with|some i=>Jh P k i|none=>true)&&JO P (k+1) r
theorem WT{P:Program}: ∀(l:List (Option TI)) (k:Nat),JO P k l=true→ ∀t i,l[t]? =some (some i)→Jh P (k+t) i=true
 |[],_,_,_,_,h=>by simp at h
 |o::r,k,hb,0,i,h=>by
  simp only[List.getElem?_cons_zero,Option.some.injEq]at h;subst h;unfold JO at hb
  simpa using (Ax _ _ ▸ hb).1
 |o::r,k,hb,t+1,i,h=>by
  unfold JO at hb;have:=WT r (k+1) (by simpa using (Ax _ _ ▸ hb).2) t i (by simpa using h)
  rwa [show k+1+t=k+(t+1) by omega]at this
theorem jaA:JO Tryz.prog 0 Lz=true:=by kernel_rfl
theorem Ad:Ba Tryz.prog tb:=fun t i h=>by
 have:=WT Lz 0 jaA t i (by unfold tb at h;cases hx:Lz[t]? <;>simp[hx]at h;rw[h])
 rwa [Nat.zero_add]at this
theorem mixed:Tryz.prog.follows .mixedOrders=true:=by kernel_rfl
@[simp]theorem tb_1:tb 1=some { size:=1,bytes:=8,zero:=[.d .nilFn] }:=rfl
@[simp]theorem tb_2:tb 2=some { size:=1,bytes:=8,zero:=[.d (.int .i64 0)] }:=rfl
@[simp]theorem tb_3:tb 3=some { size:=1,bytes:=8,zero:=[.d (.int .i64 0)] }:=rfl
@[simp]theorem tb_4:tb 4=some { size:=1,bytes:=1,zero:=[.d (.bool false)] }:=rfl
@[simp]theorem tb_5:tb 5=some { size:=1,bytes:=1,zero:=[.d (.int .u8 0)] }:=rfl
@[simp]theorem tb_6:tb 6=some { size:=1,bytes:=1,zero:=[.d (.int .u8 0)] }:=rfl
@[simp]theorem tb_7:tb 7=some { agg:=true,size:=4,bytes:=24,zero:=[.d (.int .i64 0),.d (.int .i64 0),.d (.bool false),.d (.int .u8 0)],flds:=[(0,2),(1,3),(2,4),(3,6)],flat:=true }:=rfl
@[simp]theorem tb_8:tb 8=some { agg:=true,size:=4,bytes:=24,zero:=[.d (.int .i64 0),.d (.int .i64 0),.d (.bool false),.d (.int .u8 0)],flds:=[(0,2),(1,3),(2,4),(3,6)],flat:=true }:=rfl
@[simp]theorem tb_9:tb 9=some { size:=1,bytes:=16,zero:=[.d (.str ByteArray.empty)] }:=rfl
@[simp]theorem tb_10:tb 10=some { size:=1,bytes:=16,zero:=[.d (.str ByteArray.empty)] }:=rfl
@[simp]theorem tb_11:tb 11=some { size:=1,bytes:=16,zero:=[.d (.str ByteArray.empty)] }:=rfl
@[simp]theorem tb_12:tb 12=some { size:=1,bytes:=8,zero:=[.d (.int .u64 0)] }:=rfl
@[simp]theorem tb_21:tb 21=some { size:=1,bytes:=4,zero:=[.d (.int .i32 0)] }:=rfl
@[simp]theorem tb_22:tb 22=some { size:=1,bytes:=24,zero:=[.nl],sl:=some 39 }:=rfl
@[simp]theorem tb_24:tb 24=some { size:=1,bytes:=8,zero:=[.d .nilFn] }:=rfl
@[simp]theorem tb_25:tb 25=some { size:=1,bytes:=24,zero:=[.nl],sl:=some 60 }:=rfl
@[simp]theorem tb_31:tb 31=some { size:=1,bytes:=24,zero:=[.nl],sl:=some 3 }:=rfl
@[simp]theorem tb_33:tb 33=some { size:=1,bytes:=24,zero:=[.nl],sl:=some 139 }:=rfl
@[simp]theorem tb_35:tb 35=some { agg:=true,size:=2,bytes:=32,zero:=[.d (.bool false),.nl],flds:=[(0,4),(1,33)] }:=rfl
@[simp]theorem tb_37:tb 37=some { agg:=true,size:=3,bytes:=56,zero:=[.d (.bool false),.nl,.nl],flds:=[(0,35),(2,33)] }:=rfl
@[simp]theorem tb_39:tb 39=some { agg:=true,size:=5,bytes:=88,zero:=[.d (.int .i64 0),.nl,.d (.bool false),.nl,.nl],flds:=[(0,3),(1,31),(2,37)] }:=rfl
@[simp]theorem tb_50:tb 50=some { size:=1,bytes:=8,zero:=[.d (.int .i64 0)] }:=rfl
@[simp]theorem tb_60:tb 60=some { agg:=true,size:=2,bytes:=32,zero:=[.d (.int .i64 0),.nl],flds:=[(0,3),(1,31)] }:=rfl
@[simp]theorem tb_61:tb 61=some { size:=1,bytes:=24,zero:=[.nl],sl:=some 64 }:=rfl
@[simp]theorem tb_64:tb 64=some { agg:=true,size:=6,bytes:=112,zero:=[.d (.int .i64 0),.nl,.d (.bool false),.nl,.nl,.nl],flds:=[(0,39),(5,25)] }:=rfl
@[simp]theorem tb_66:tb 66=some { size:=1,bytes:=24,zero:=[.nl],sl:=some 69 }:=rfl
@[simp]theorem tb_69:tb 69=some { agg:=true,size:=6,bytes:=112,zero:=[.d (.int .i64 0),.nl,.d (.bool false),.nl,.nl,.nl],flds:=[(0,39),(5,25)] }:=rfl
@[simp]theorem tb_71:tb 71=some { size:=1,bytes:=8,zero:=[.d .nilFn] }:=rfl
@[simp]theorem tb_72:tb 72=some { size:=1,bytes:=8,zero:=[.d .nilFn] }:=rfl
@[simp]theorem tb_74:tb 74=some { size:=1,bytes:=24,zero:=[.nl],sl:=some 155 }:=rfl
@[simp]theorem tb_75:tb 75=some { size:=1,bytes:=8,zero:=[.d .nilFn] }:=rfl
@[simp]theorem tb_77:tb 77=some { agg:=true,size:=6,bytes:=104,zero:=[.d (.str ByteArray.empty),.nl,.nl,.nl,.d (.int .i64 0),.d .nilFn],flds:=[(0,9),(1,74),(2,74),(3,74),(4,3),(5,75)] }:=rfl
@[simp]theorem tb_79:tb 79=some { size:=1,bytes:=24,zero:=[.nl],sl:=some 177 }:=rfl
@[simp]theorem tb_81:tb 81=some { agg:=true,size:=4,bytes:=88,zero:=[.d (.str ByteArray.empty),.nl,.nl,.nl],flds:=[(0,9),(1,79),(2,79),(3,79)] }:=rfl
@[simp]theorem tb_97:tb 97=some { size:=1,bytes:=8,zero:=[.d (.int .u64 0)] }:=rfl
@[simp]theorem tb_98:tb 98=some { size:=1,bytes:=8,zero:=[.d .nilFn] }:=rfl
@[simp]theorem tb_101:tb 101=some { size:=1,bytes:=8,zero:=[.d .nilFn] }:=rfl
@[simp]theorem tb_102:tb 102=some { size:=1,bytes:=8,zero:=[.d .nilFn] }:=rfl
@[simp]theorem tb_103:tb 103=some { size:=1,bytes:=8,zero:=[.d .nilFn] }:=rfl
@[simp]theorem tb_106:tb 106=some { size:=1,bytes:=8,zero:=[.d .nilFn] }:=rfl
@[simp]theorem tb_109:tb 109=some { size:=1,bytes:=8,zero:=[.d .nilFn] }:=rfl
@[simp]theorem tb_111:tb 111=some { size:=1,bytes:=2,zero:=[.d (.int .i16 0)] }:=rfl
@[simp]theorem tb_113:tb 113=some { agg:=true,size:=26,bytes:=52,zero:=List.replicate 26 (.d (.int .i16 0)),arr:=some (26,111),flat:=true }:=rfl
@[simp]theorem tb_117:tb 117=some { agg:=true,size:=1,bytes:=8,zero:=[.d .nilFn],flds:=[(0,72)] }:=rfl
@[simp]theorem tb_139:tb 139=some { size:=1,bytes:=2,zero:=[.d (.int .u16 0)] }:=rfl
@[simp]theorem tb_141:tb 141=some { size:=1,bytes:=24,zero:=[.nl],sl:=some 144 }:=rfl
@[simp]theorem tb_143:tb 143=some { agg:=true,size:=2,bytes:=16,zero:=[.d (.int .i64 0),.d (.int .i64 0)],arr:=some (2,3),flat:=true }:=rfl
@[simp]theorem tb_144:tb 144=some { agg:=true,size:=2,bytes:=16,zero:=[.d (.int .i64 0),.d (.int .i64 0)],arr:=some (2,3),flat:=true }:=rfl
@[simp]theorem tb_147:tb 147=some { size:=1,bytes:=8,zero:=[.d .nilFn] }:=rfl
@[simp]theorem tb_148:tb 148=some { agg:=true,size:=26,bytes:=208,zero:=List.replicate 26 (.d (.int .i64 0)),arr:=some (26,3),flat:=true }:=rfl
@[simp]theorem tb_149:tb 149=some { agg:=true,size:=2,bytes:=16,zero:=[.d (.int .i64 0),.d (.int .i64 0)],arr:=some (2,3),flat:=true }:=rfl
@[simp]theorem tb_150:tb 150=some { agg:=true,size:=52,bytes:=416,zero:=List.replicate 52 (.d (.int .i64 0)),arr:=some (26,149) }:=rfl
@[simp]theorem tb_152:tb 152=some { agg:=true,size:=78,bytes:=624,zero:=List.replicate 78 (.d (.int .i64 0)),flds:=[(0,148),(26,150)] }:=rfl
@[simp]theorem tb_155:tb 155=some { agg:=true,size:=3,bytes:=32,zero:=[.d (.int .i64 0),.d (.str ByteArray.empty),.d (.int .i64 0)],flds:=[(0,3),(1,9),(2,3)] }:=rfl
@[simp]theorem tb_156:tb 156=some { size:=1,bytes:=8,zero:=[.d .nilFn] }:=rfl
@[simp]theorem tb_161:tb 161=some { size:=1,bytes:=8,zero:=[.d (.int .u64 0)] }:=rfl
@[simp]theorem tb_165:tb 165=some { agg:=true,size:=2,bytes:=16,zero:=[.d (.int .i64 0),.d (.int .i64 0)],flds:=[(0,3),(1,3)],flat:=true }:=rfl
@[simp]theorem tb_169:tb 169=some { size:=1,bytes:=24,zero:=[.nl],sl:=some 172 }:=rfl
@[simp]theorem tb_172:tb 172=some { agg:=true,size:=5,bytes:=72,zero:=[.d (.int .i64 0),.d (.int .i64 0),.d (.bool false),.nl,.nl],flds:=[(0,3),(1,3),(2,37)] }:=rfl
@[simp]theorem tb_177:tb 177=some { agg:=true,size:=4,bytes:=40,zero:=[.d (.int .i64 0),.d (.str ByteArray.empty),.d (.bool false),.d (.int .i64 0)],flds:=[(0,3),(1,9),(2,4),(3,3)] }:=rfl
@[simp]theorem tb_179:tb 179=some { size:=1,bytes:=24,zero:=[.nl],sl:=some 31 }:=rfl
@[simp]theorem tb_200:tb 200=some { size:=1,bytes:=8,zero:=[.d .nilFn] }:=rfl
@[simp]theorem tb_211:tb 211=some { size:=1,bytes:=24,zero:=[.nl],sl:=some 213 }:=rfl
@[simp]theorem tb_213:tb 213=some { size:=1,bytes:=24,zero:=[.nl],sl:=some 149 }:=rfl
@[simp]theorem tb_218:tb 218=some { size:=1,bytes:=8,zero:=[.d (.int .i64 0)] }:=rfl
@[simp]theorem tb_226:tb 226=some { size:=1,bytes:=4,zero:=[.d (.int .u32 0)] }:=rfl
@[simp]theorem tb_243:tb 243=some { agg:=true,size:=4,bytes:=32,zero:=[.d (.int .i64 0),.d (.int .i64 0),.d (.int .i64 0),.d (.int .i64 0)],arr:=some (2,144) }:=rfl
@[simp]theorem tb_244:tb 244=some { size:=1,bytes:=8,zero:=[.d .nilPtr] }:=rfl
@[simp]theorem tb_245:tb 245=some { size:=1,bytes:=24,zero:=[.nl],sl:=some 244 }:=rfl
@[simp]theorem tb_252:tb 252=some { size:=1,bytes:=8,zero:=[.d .nilPtr] }:=rfl
@[simp]theorem tb_256:tb 256=some { size:=1,bytes:=8,zero:=[.d (.int .u64 0)] }:=rfl
@[simp]theorem tb_263:tb 263=some { size:=1,bytes:=24,zero:=[.nl],sl:=some 165 }:=rfl
@[simp]theorem tb_271:tb 271=some { agg:=true,size:=2,bytes:=16,zero:=[.d (.int .i64 0),.d (.int .u16 0)],flds:=[(0,3),(1,139)],flat:=true }:=rfl
@[simp]theorem tb_275:tb 275=some { size:=1,bytes:=8,zero:=[.d .nilPtr] }:=rfl
@[simp]theorem tb_282:tb 282=some { size:=1,bytes:=8,zero:=[.d .nilPtr] }:=rfl
@[simp]theorem tb_286:tb 286=some { agg:=true,size:=4,bytes:=32,zero:=[.d (.int .i64 0),.d (.int .i64 0),.d (.int .i64 0),.d (.int .i64 0)],arr:=some (4,3),flat:=true }:=rfl
@[simp]theorem tb_287:tb 287=some { agg:=true,size:=32,bytes:=256,zero:=List.replicate 32 (.d (.int .i64 0)),arr:=some (8,286) }:=rfl
end Go.Va
