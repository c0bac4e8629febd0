/- a part of the proof -/
import Derived.Test.YtkajmpgbnbikiaaGreatDoorMab
import Derived.Test.YtkajmpgbnbikiaaGreatDoorProg
set_option linter.all false
set_option maxRecDepth 20000
namespace Go.Va
open Go.Proofs
def jg6:TI:={ size:=1,bytes:=8,zero:=[.d .nilFn] }
def Yi:TI:={ size:=1,bytes:=8,zero:=[.d (.int .i64 0)] }
def NV:TI:={ size:=1,bytes:=8,zero:=[.d (.int .i64 0)] }
def T2:TI:={ size:=1,bytes:=1,zero:=[.d (.bool false)] }
def SH:TI:={ size:=1,bytes:=1,zero:=[.d (.int .u8 0)] }
def WL:TI:={ size:=1,bytes:=1,zero:=[.d (.int .u8 0)] }
def XS:TI:={ agg:=true,size:=4,bytes:=24,zero:=[.d (.int .i64 0),.d (.int .i64 0),.d (.bool false),.d (.int .u8 0)],flds:=[(0,2),(1,3),(2,4),(3,6)],flat:=true }
def U8:TI:={ agg:=true,size:=4,bytes:=24,zero:=[.d (.int .i64 0),.d (.int .i64 0),.d (.bool false),.d (.int .u8 0)],flds:=[(0,2),(1,3),(2,4),(3,6)],flat:=true }
def Tu:TI:={ size:=1,bytes:=16,zero:=[.d (.str ByteArray.empty)] }
def Wo:TI:={ size:=1,bytes:=16,zero:=[.d (.str ByteArray.empty)] }
def XF:TI:={ size:=1,bytes:=16,zero:=[.d (.str ByteArray.empty)] }
def Zz:TI:={ size:=1,bytes:=8,zero:=[.d (.int .u64 0)] }
def jgQ:TI:={ size:=1,bytes:=4,zero:=[.d (.int .i32 0)] }
def PM:TI:={ size:=1,bytes:=24,zero:=[.nl],sl:=some 53 }
def SA:TI:={ size:=1,bytes:=24,zero:=[.nl],sl:=some 55 }
def PP:TI:={ agg:=true,size:=2,bytes:=48,zero:=[.nl,.nl],flds:=[(0,22),(1,23)] }
def PK:TI:={ size:=1,bytes:=24,zero:=[.nl],sl:=some 91 }
def So:TI:={ size:=1,bytes:=24,zero:=[.nl],sl:=some 51 }
def Sy:TI:={ agg:=true,size:=2,bytes:=48,zero:=[.nl,.nl],flds:=[(0,31),(1,32)] }
def jig:TI:={ size:=1,bytes:=24,zero:=[.nl],sl:=some 85 }
def Pk:TI:={ size:=1,bytes:=24,zero:=[.nl],sl:=some 3 }
def Ur:TI:={ size:=1,bytes:=24,zero:=[.nl],sl:=some 209 }
def Re:TI:={ agg:=true,size:=2,bytes:=32,zero:=[.d (.bool false),.nl],flds:=[(0,4),(1,45)] }
def Ps:TI:={ agg:=true,size:=3,bytes:=56,zero:=[.d (.bool false),.nl,.nl],flds:=[(0,47),(2,45)] }
def Q3:TI:={ agg:=true,size:=5,bytes:=88,zero:=[.d (.int .i64 0),.nl,.d (.bool false),.nl,.nl],flds:=[(0,3),(1,43),(2,49)] }
def PD:TI:={ agg:=true,size:=7,bytes:=120,zero:=[.d (.int .i64 0),.nl,.d (.bool false),.nl,.nl,.d (.int .i64 0),.nl],flds:=[(0,51),(5,3),(6,43)] }
def T1:TI:={ agg:=true,size:=2,bytes:=32,zero:=[.d (.int .i64 0),.nl],flds:=[(0,3),(1,43)] }
def PA:TI:={ size:=1,bytes:=24,zero:=[.nl],sl:=some 62 }
def U4:TI:={ size:=1,bytes:=16,zero:=[.d (.lit .nilIface)] }
def Uc:TI:={ agg:=true,size:=8,bytes:=128,zero:=[.d (.int .i64 0),.nl,.d (.bool false),.nl,.nl,.d (.int .i64 0),.nl,.d (.int .i64 0)],flds:=[(0,53),(7,3)] }
def jeK:TI:={ size:=1,bytes:=8,zero:=[.d .nilFn] }
def Vh:TI:={ size:=1,bytes:=24,zero:=[.nl],sl:=some 49 }
def V0:TI:={ agg:=true,size:=6,bytes:=112,zero:=[.d (.bool false),.nl,.nl,.d (.bool false),.nl,.nl],flds:=[(0,49),(3,49)] }
def jiV:TI:={ agg:=true,size:=3,bytes:=40,zero:=[.d (.int .i64 0),.nl,.d (.int .i64 0)],flds:=[(0,3),(1,43),(2,3)] }
def UH:TI:={ agg:=true,size:=6,bytes:=104,zero:=[.d (.int .i64 0),.d (.str ByteArray.empty),.nl,.d (.bool false),.nl,.nl],flds:=[(0,3),(1,9),(2,43),(3,49)] }
def PV:TI:={ size:=1,bytes:=24,zero:=[.nl],sl:=some 5 }
def jbI:TI:={ size:=1,bytes:=8,zero:=[.d .nilFn] }
def QM:TI:={ size:=1,bytes:=24,zero:=[.nl],sl:=some 214 }
def Ry:TI:={ agg:=true,size:=4,bytes:=88,zero:=[.d (.str ByteArray.empty),.nl,.nl,.nl],flds:=[(0,9),(1,100),(2,100),(3,100)] }
def Xo:TI:={ size:=1,bytes:=24,zero:=[.nl],sl:=some 116 }
def XG:TI:={ agg:=true,size:=2,bytes:=16,zero:=[.d (.int .i64 0),.d (.int .i64 0)],arr:=some (2,3),flat:=true }
def RR:TI:={ size:=1,bytes:=24,zero:=[.nl],sl:=some 122 }
def Pa:TI:={ agg:=true,size:=6,bytes:=112,zero:=[.d (.int .i64 0),.nl,.d (.bool false),.nl,.nl,.nl],flds:=[(0,51),(5,23)] }
def Un:TI:={ agg:=true,size:=2,bytes:=16,zero:=[.d (.int .i64 0),.d (.int .i64 0)],flds:=[(0,3),(1,3)],flat:=true }
def Th:TI:={ size:=1,bytes:=24,zero:=[.nl],sl:=some 143 }
def Ta:TI:={ agg:=true,size:=8,bytes:=144,zero:=[.d (.int .i64 0),.nl,.d (.bool false),.nl,.nl,.d (.int .i64 0),.nl,.nl],flds:=[(0,53),(7,23)] }
def Qe:TI:={ size:=1,bytes:=24,zero:=[.nl],sl:=some 272 }
def QQ:TI:={ size:=1,bytes:=8,zero:=[.d .nilFn] }
def Oj:TI:={ agg:=true,size:=6,bytes:=104,zero:=[.d (.str ByteArray.empty),.nl,.nl,.nl,.d (.int .i64 0),.d .nilFn],flds:=[(0,9),(1,145),(2,145),(3,145),(4,3),(5,146)] }
def Sh:TI:={ size:=1,bytes:=8,zero:=[.d (.int .u64 0)] }
def ZO:TI:={ size:=1,bytes:=24,zero:=[.nl],sl:=some 169 }
def jhl:TI:={ agg:=true,size:=6,bytes:=112,zero:=[.d (.int .i64 0),.nl,.d (.bool false),.nl,.nl,.nl],flds:=[(0,51),(5,23)] }
def ZX:TI:={ agg:=true,size:=1,bytes:=8,zero:=[.d .nilFn],flds:=[(0,94)] }
def Q2:TI:={ size:=1,bytes:=2,zero:=[.d (.int .i16 0)] }
def RG:TI:={ agg:=true,size:=26,bytes:=52,zero:=List.replicate 26 (.d (.int .i16 0)),arr:=some (26,183),flat:=true }
def jdc:TI:={ agg:=true,size:=6,bytes:=112,zero:=[.d (.bool false),.nl,.nl,.d (.bool false),.nl,.nl],arr:=some (2,49) }
def Uo:TI:={ size:=1,bytes:=24,zero:=[.nl],sl:=some 208 }
def SE:TI:={ agg:=true,size:=7,bytes:=136,zero:=[.d (.int .i64 0),.nl,.d (.bool false),.nl,.nl,.nl,.nl],flds:=[(0,51),(5,43),(6,23)] }
def O8:TI:={ size:=1,bytes:=2,zero:=[.d (.int .u16 0)] }
def QJ:TI:={ agg:=true,size:=4,bytes:=40,zero:=[.d (.int .i64 0),.d (.str ByteArray.empty),.d (.bool false),.d (.int .i64 0)],flds:=[(0,3),(1,9),(2,4),(3,3)] }
def jaY:TI:={ size:=1,bytes:=8,zero:=[.d .nilFn] }
def OI:TI:={ size:=1,bytes:=24,zero:=[.nl],sl:=some 250 }
def Rj:TI:={ agg:=true,size:=5,bytes:=72,zero:=[.d (.int .i64 0),.d (.int .i64 0),.d (.bool false),.nl,.nl],flds:=[(0,3),(1,3),(2,49)] }
def Rc:TI:={ size:=1,bytes:=24,zero:=[.nl],sl:=some 43 }
def Pw:TI:={ size:=1,bytes:=24,zero:=[.nl],sl:=some 126 }
def To:TI:={ size:=1,bytes:=24,zero:=[.nl],sl:=some 263 }
def Tf:TI:={ size:=1,bytes:=24,zero:=[.nl],sl:=some 314 }
def Qp:TI:={ agg:=true,size:=2,bytes:=16,zero:=[.d (.int .i64 0),.d (.int .u16 0)],flds:=[(0,3),(1,209)],flat:=true }
def N5:TI:={ agg:=true,size:=3,bytes:=32,zero:=[.d (.int .i64 0),.d (.str ByteArray.empty),.d (.int .i64 0)],flds:=[(0,3),(1,9),(2,3)] }
def NQ:TI:={ size:=1,bytes:=24,zero:=[.nl],sl:=some 9 }
def XC:TI:={ size:=1,bytes:=8,zero:=[.d .nilFn] }
def jfl:TI:={ agg:=true,size:=26,bytes:=208,zero:=List.replicate 26 (.d (.int .i64 0)),arr:=some (26,3),flat:=true }
def jg0:TI:={ agg:=true,size:=2,bytes:=16,zero:=[.d (.int .i64 0),.d (.int .i64 0)],arr:=some (2,3),flat:=true }
def jdA:TI:={ agg:=true,size:=52,bytes:=416,zero:=List.replicate 52 (.d (.int .i64 0)),arr:=some (26,292) }
def ZP:TI:={ agg:=true,size:=78,bytes:=624,zero:=List.replicate 78 (.d (.int .i64 0)),flds:=[(0,291),(26,293)] }
def Xj:TI:={ agg:=true,size:=4,bytes:=32,zero:=[.d (.int .i64 0),.d (.int .i64 0),.d (.int .i64 0),.d (.int .i64 0)],arr:=some (2,116) }
def jfq:TI:={ size:=1,bytes:=8,zero:=[.d .nilPtr] }
def XV:TI:={ size:=1,bytes:=24,zero:=[.nl],sl:=some 307 }
def PZ:TI:={ agg:=true,size:=2,bytes:=32,zero:=[.d (.int .i64 0),.nl],flds:=[(0,3),(1,43)] }
def jfn:TI:={ size:=1,bytes:=24,zero:=[.nl],sl:=some 328 }
def Vs:TI:={ size:=1,bytes:=24,zero:=[.nl],sl:=some 292 }
def jgj:TI:={ size:=1,bytes:=4,zero:=[.d (.int .u32 0)] }
def Yj:TI:={ size:=1,bytes:=24,zero:=[.nl],sl:=some 47 }
def KQ:List (Option TI):=[none,some jg6,some Yi,some NV,some T2,some SH,some WL,some XS,some U8,some Tu,some Wo,some XF,some Zz,none,none,none,none,none,none,none,none,some jgQ,some PM,some SA,none,some PP,none,none,none,none,none,some PK,some So,none,some Sy,none,none,none,some jig,none,none,none,none,some Pk,none,some Ur,none,some Re,none,some Ps,none,some Q3,none,some PD,none,some T1,none,none,none,some PA,none,none,some U4,none,some Uc,none,none,none,none,none,none,none,none,none,some jeK,none,none,none,none,none,none,none,some Vh,none,none,some V0,none,none,some jiV,none,none,some UH,none,some PV,some jbI,none,none,none,none,none,some QM,none,some Ry,none,none,none,none,none,none,none,none,none,none,some Xo,none,none,some XG,none,none,some RR,none,none,some Pa,none,none,none,some Un,none,none,none,none,none,none,none,none,none,none,none,none,none,some Th,none,none,some Ta,none,some Qe,some QQ,none,some Oj,none,none,none,none,none,none,some Sh,none,none,none,none,none,none,none,none,none,none,some ZO,none,none,some jhl,none,none,none,none,none,none,none,none,none,some ZX,none,none,none,some Q2,none,some RG,none,none,none,none,none,none,none,some jdc,none,none,none,none,none,none,none,none,none,none,none,some Uo,none,none,some SE,some O8,none,none,none,none,some QJ,none,none,none,none,none,none,none,none,none,none,none,none,none,none,none,none,none,none,none,none,none,none,some jaY,none,none,none,none,none,none,none,none,none,some OI,none,none,some Rj,none,none,none,some Rc,none,none,none,none,none,some Pw,none,some To,some Tf,none,none,none,some Qp,none,none,none,none,some N5,none,none,none,none,none,none,none,some NQ,none,none,none,none,none,none,none,none,none,some XC,some jfl,some jg0,some jdA,none,some ZP,none,none,none,none,none,none,none,none,none,none,some Xj,some jfq,some XV,none,none,none,none,none,some PZ,none,none,none,none,none,none,none,none,none,none,none,some jfn,none,some Vs,none,none,none,none,none,none,none,none,none,none,some jgj,none,none,none,none,none,none,none,none,some Yj]
def tb:Au:=fun t=>(KQ[t]?).join
def IH(P:Program):Nat→List (Option TI)→Bool
 |_,[]=>true
 |k,o::r=>(match o with|some i=>GY P k i|none=>true)&&IH P (k+1) r
theorem SL{P:Program}: ∀(l:List (Option TI)) (k:Nat),IH P k l=true→ ∀t i,l[t]? =some (some i)→GY P (k+t) i=true
 |[],_,_,_,_,h=>by simp at h
 |o::r,k,hb,0,i,h=>by
  simp only[List.getElem?_cons_zero,Option.some.injEq]at h;subst h;unfold IH at hb
  simpa using (AC _ _ ▸ hb).1
 |o::r,k,hb,t+1,i,h=>by
  unfold IH at hb;have:=SL r (k+1) (by simpa using (AC _ _ ▸ hb).2) t i (by simpa using h)
  rwa [show k+1+t=k+(t+1) by omega]at this
theorem jc7:IH Tryz.prog 0 KQ=true:=by kernel_rfl
theorem Ah:AM Tryz.prog tb:=fun t i h=>by
 have:=SL KQ 0 jc7 t i (by unfold tb at h;cases hx:KQ[t]? <;>simp[hx]at h;rw[h])
 rwa [Nat.zero_add]at this
theorem mixed:Tryz.prog.follows .mixedOrders=true:=by kernel_rfl
@[simp]theorem tb_1:tb 1=some { size:=1,bytes:=8,zero:=[.d .nilFn] }:=rfl
@[simp]theorem tb_2:tb 2=some { size:=1,bytes:=8,zero:=[.d (.int .i64 0)] }:=rfl
@[simp]theorem tb_3:tb 3=some { size:=1,bytes:=8,zero:=[.d (.int .i64 0)] }:=rfl
@[simp]theorem tb_4:tb 4=some { size:=1,bytes:=1,zero:=[.d (.bool false)] }:=rfl
@[simp]theorem tb_5:tb 5=some { size:=1,bytes:=1,zero:=[.d (.int .u8 0)] }:=rfl
@[simp]theorem tb_6:tb 6=some { size:=1,bytes:=1,zero:=[.d (.int .u8 0)] }:=rfl
@[simp]theorem tb_7:tb 7=some { agg:=true,size:=4,bytes:=24,zero:=[.d (.int .i64 0),.d (.int .i64 0),.d (.bool false),.d (.int .u8 0)],flds:=[(0,2),(1,3),(2,4),(3,6)],flat:=true }:=rfl
@[simp]theorem tb_8:tb 8=some { agg:=true,size:=4,bytes:=24,zero:=[.d (.int .i64 0),.d (.int .i64 0),.d (.bool false),.d (.int .u8 0)],flds:=[(0,2),(1,3),(2,4),(3,6)],flat:=true }:=rfl
@[simp]theorem tb_9:tb 9=some { size:=1,bytes:=16,zero:=[.d (.str ByteArray.empty)] }:=rfl
@[simp]theorem tb_10:tb 10=some { size:=1,bytes:=16,zero:=[.d (.str ByteArray.empty)] }:=rfl
@[simp]theorem tb_11:tb 11=some { size:=1,bytes:=16,zero:=[.d (.str ByteArray.empty)] }:=rfl
@[simp]theorem tb_12:tb 12=some { size:=1,bytes:=8,zero:=[.d (.int .u64 0)] }:=rfl
@[simp]theorem tb_21:tb 21=some { size:=1,bytes:=4,zero:=[.d (.int .i32 0)] }:=rfl
@[simp]theorem tb_22:tb 22=some { size:=1,bytes:=24,zero:=[.nl],sl:=some 53 }:=rfl
@[simp]theorem tb_23:tb 23=some { size:=1,bytes:=24,zero:=[.nl],sl:=some 55 }:=rfl
@[simp]theorem tb_25:tb 25=some { agg:=true,size:=2,bytes:=48,zero:=[.nl,.nl],flds:=[(0,22),(1,23)] }:=rfl
@[simp]theorem tb_31:tb 31=some { size:=1,bytes:=24,zero:=[.nl],sl:=some 91 }:=rfl
@[simp]theorem tb_32:tb 32=some { size:=1,bytes:=24,zero:=[.nl],sl:=some 51 }:=rfl
@[simp]theorem tb_34:tb 34=some { agg:=true,size:=2,bytes:=48,zero:=[.nl,.nl],flds:=[(0,31),(1,32)] }:=rfl
@[simp]theorem tb_38:tb 38=some { size:=1,bytes:=24,zero:=[.nl],sl:=some 85 }:=rfl
@[simp]theorem tb_43:tb 43=some { size:=1,bytes:=24,zero:=[.nl],sl:=some 3 }:=rfl
@[simp]theorem tb_45:tb 45=some { size:=1,bytes:=24,zero:=[.nl],sl:=some 209 }:=rfl
@[simp]theorem tb_47:tb 47=some { agg:=true,size:=2,bytes:=32,zero:=[.d (.bool false),.nl],flds:=[(0,4),(1,45)] }:=rfl
@[simp]theorem tb_49:tb 49=some { agg:=true,size:=3,bytes:=56,zero:=[.d (.bool false),.nl,.nl],flds:=[(0,47),(2,45)] }:=rfl
@[simp]theorem tb_51:tb 51=some { agg:=true,size:=5,bytes:=88,zero:=[.d (.int .i64 0),.nl,.d (.bool false),.nl,.nl],flds:=[(0,3),(1,43),(2,49)] }:=rfl
@[simp]theorem tb_53:tb 53=some { agg:=true,size:=7,bytes:=120,zero:=[.d (.int .i64 0),.nl,.d (.bool false),.nl,.nl,.d (.int .i64 0),.nl],flds:=[(0,51),(5,3),(6,43)] }:=rfl
@[simp]theorem tb_55:tb 55=some { agg:=true,size:=2,bytes:=32,zero:=[.d (.int .i64 0),.nl],flds:=[(0,3),(1,43)] }:=rfl
@[simp]theorem tb_59:tb 59=some { size:=1,bytes:=24,zero:=[.nl],sl:=some 62 }:=rfl
@[simp]theorem tb_62:tb 62=some { size:=1,bytes:=16,zero:=[.d (.lit .nilIface)] }:=rfl
@[simp]theorem tb_64:tb 64=some { agg:=true,size:=8,bytes:=128,zero:=[.d (.int .i64 0),.nl,.d (.bool false),.nl,.nl,.d (.int .i64 0),.nl,.d (.int .i64 0)],flds:=[(0,53),(7,3)] }:=rfl
@[simp]theorem tb_74:tb 74=some { size:=1,bytes:=8,zero:=[.d .nilFn] }:=rfl
@[simp]theorem tb_82:tb 82=some { size:=1,bytes:=24,zero:=[.nl],sl:=some 49 }:=rfl
@[simp]theorem tb_85:tb 85=some { agg:=true,size:=6,bytes:=112,zero:=[.d (.bool false),.nl,.nl,.d (.bool false),.nl,.nl],flds:=[(0,49),(3,49)] }:=rfl
@[simp]theorem tb_88:tb 88=some { agg:=true,size:=3,bytes:=40,zero:=[.d (.int .i64 0),.nl,.d (.int .i64 0)],flds:=[(0,3),(1,43),(2,3)] }:=rfl
@[simp]theorem tb_91:tb 91=some { agg:=true,size:=6,bytes:=104,zero:=[.d (.int .i64 0),.d (.str ByteArray.empty),.nl,.d (.bool false),.nl,.nl],flds:=[(0,3),(1,9),(2,43),(3,49)] }:=rfl
@[simp]theorem tb_93:tb 93=some { size:=1,bytes:=24,zero:=[.nl],sl:=some 5 }:=rfl
@[simp]theorem tb_94:tb 94=some { size:=1,bytes:=8,zero:=[.d .nilFn] }:=rfl
@[simp]theorem tb_100:tb 100=some { size:=1,bytes:=24,zero:=[.nl],sl:=some 214 }:=rfl
@[simp]theorem tb_102:tb 102=some { agg:=true,size:=4,bytes:=88,zero:=[.d (.str ByteArray.empty),.nl,.nl,.nl],flds:=[(0,9),(1,100),(2,100),(3,100)] }:=rfl
@[simp]theorem tb_113:tb 113=some { size:=1,bytes:=24,zero:=[.nl],sl:=some 116 }:=rfl
@[simp]theorem tb_116:tb 116=some { agg:=true,size:=2,bytes:=16,zero:=[.d (.int .i64 0),.d (.int .i64 0)],arr:=some (2,3),flat:=true }:=rfl
@[simp]theorem tb_119:tb 119=some { size:=1,bytes:=24,zero:=[.nl],sl:=some 122 }:=rfl
@[simp]theorem tb_122:tb 122=some { agg:=true,size:=6,bytes:=112,zero:=[.d (.int .i64 0),.nl,.d (.bool false),.nl,.nl,.nl],flds:=[(0,51),(5,23)] }:=rfl
@[simp]theorem tb_126:tb 126=some { agg:=true,size:=2,bytes:=16,zero:=[.d (.int .i64 0),.d (.int .i64 0)],flds:=[(0,3),(1,3)],flat:=true }:=rfl
@[simp]theorem tb_140:tb 140=some { size:=1,bytes:=24,zero:=[.nl],sl:=some 143 }:=rfl
@[simp]theorem tb_143:tb 143=some { agg:=true,size:=8,bytes:=144,zero:=[.d (.int .i64 0),.nl,.d (.bool false),.nl,.nl,.d (.int .i64 0),.nl,.nl],flds:=[(0,53),(7,23)] }:=rfl
@[simp]theorem tb_145:tb 145=some { size:=1,bytes:=24,zero:=[.nl],sl:=some 272 }:=rfl
@[simp]theorem tb_146:tb 146=some { size:=1,bytes:=8,zero:=[.d .nilFn] }:=rfl
@[simp]theorem tb_148:tb 148=some { agg:=true,size:=6,bytes:=104,zero:=[.d (.str ByteArray.empty),.nl,.nl,.nl,.d (.int .i64 0),.d .nilFn],flds:=[(0,9),(1,145),(2,145),(3,145),(4,3),(5,146)] }:=rfl
@[simp]theorem tb_155:tb 155=some { size:=1,bytes:=8,zero:=[.d (.int .u64 0)] }:=rfl
@[simp]theorem tb_166:tb 166=some { size:=1,bytes:=24,zero:=[.nl],sl:=some 169 }:=rfl
@[simp]theorem tb_169:tb 169=some { agg:=true,size:=6,bytes:=112,zero:=[.d (.int .i64 0),.nl,.d (.bool false),.nl,.nl,.nl],flds:=[(0,51),(5,23)] }:=rfl
@[simp]theorem tb_179:tb 179=some { agg:=true,size:=1,bytes:=8,zero:=[.d .nilFn],flds:=[(0,94)] }:=rfl
@[simp]theorem tb_183:tb 183=some { size:=1,bytes:=2,zero:=[.d (.int .i16 0)] }:=rfl
@[simp]theorem tb_185:tb 185=some { agg:=true,size:=26,bytes:=52,zero:=List.replicate 26 (.d (.int .i16 0)),arr:=some (26,183),flat:=true }:=rfl
@[simp]theorem tb_193:tb 193=some { agg:=true,size:=6,bytes:=112,zero:=[.d (.bool false),.nl,.nl,.d (.bool false),.nl,.nl],arr:=some (2,49) }:=rfl
@[simp]theorem tb_205:tb 205=some { size:=1,bytes:=24,zero:=[.nl],sl:=some 208 }:=rfl
@[simp]theorem tb_208:tb 208=some { agg:=true,size:=7,bytes:=136,zero:=[.d (.int .i64 0),.nl,.d (.bool false),.nl,.nl,.nl,.nl],flds:=[(0,51),(5,43),(6,23)] }:=rfl
@[simp]theorem tb_209:tb 209=some { size:=1,bytes:=2,zero:=[.d (.int .u16 0)] }:=rfl
@[simp]theorem tb_214:tb 214=some { agg:=true,size:=4,bytes:=40,zero:=[.d (.int .i64 0),.d (.str ByteArray.empty),.d (.bool false),.d (.int .i64 0)],flds:=[(0,3),(1,9),(2,4),(3,3)] }:=rfl
@[simp]theorem tb_237:tb 237=some { size:=1,bytes:=8,zero:=[.d .nilFn] }:=rfl
@[simp]theorem tb_247:tb 247=some { size:=1,bytes:=24,zero:=[.nl],sl:=some 250 }:=rfl
@[simp]theorem tb_250:tb 250=some { agg:=true,size:=5,bytes:=72,zero:=[.d (.int .i64 0),.d (.int .i64 0),.d (.bool false),.nl,.nl],flds:=[(0,3),(1,3),(2,49)] }:=rfl
@[simp]theorem tb_254:tb 254=some { size:=1,bytes:=24,zero:=[.nl],sl:=some 43 }:=rfl
@[simp]theorem tb_260:tb 260=some { size:=1,bytes:=24,zero:=[.nl],sl:=some 126 }:=rfl
@[simp]theorem tb_262:tb 262=some { size:=1,bytes:=24,zero:=[.nl],sl:=some 263 }:=rfl
@[simp]theorem tb_263:tb 263=some { size:=1,bytes:=24,zero:=[.nl],sl:=some 314 }:=rfl
@[simp]theorem tb_267:tb 267=some { agg:=true,size:=2,bytes:=16,zero:=[.d (.int .i64 0),.d (.int .u16 0)],flds:=[(0,3),(1,209)],flat:=true }:=rfl
@[simp]theorem tb_272:tb 272=some { agg:=true,size:=3,bytes:=32,zero:=[.d (.int .i64 0),.d (.str ByteArray.empty),.d (.int .i64 0)],flds:=[(0,3),(1,9),(2,3)] }:=rfl
@[simp]theorem tb_280:tb 280=some { size:=1,bytes:=24,zero:=[.nl],sl:=some 9 }:=rfl
@[simp]theorem tb_290:tb 290=some { size:=1,bytes:=8,zero:=[.d .nilFn] }:=rfl
@[simp]theorem tb_291:tb 291=some { agg:=true,size:=26,bytes:=208,zero:=List.replicate 26 (.d (.int .i64 0)),arr:=some (26,3),flat:=true }:=rfl
@[simp]theorem tb_292:tb 292=some { agg:=true,size:=2,bytes:=16,zero:=[.d (.int .i64 0),.d (.int .i64 0)],arr:=some (2,3),flat:=true }:=rfl
@[simp]theorem tb_293:tb 293=some { agg:=true,size:=52,bytes:=416,zero:=List.replicate 52 (.d (.int .i64 0)),arr:=some (26,292) }:=rfl
@[simp]theorem tb_295:tb 295=some { agg:=true,size:=78,bytes:=624,zero:=List.replicate 78 (.d (.int .i64 0)),flds:=[(0,291),(26,293)] }:=rfl
@[simp]theorem tb_306:tb 306=some { agg:=true,size:=4,bytes:=32,zero:=[.d (.int .i64 0),.d (.int .i64 0),.d (.int .i64 0),.d (.int .i64 0)],arr:=some (2,116) }:=rfl
@[simp]theorem tb_307:tb 307=some { size:=1,bytes:=8,zero:=[.d .nilPtr] }:=rfl
@[simp]theorem tb_308:tb 308=some { size:=1,bytes:=24,zero:=[.nl],sl:=some 307 }:=rfl
@[simp]theorem tb_314:tb 314=some { agg:=true,size:=2,bytes:=32,zero:=[.d (.int .i64 0),.nl],flds:=[(0,3),(1,43)] }:=rfl
@[simp]theorem tb_326:tb 326=some { size:=1,bytes:=24,zero:=[.nl],sl:=some 328 }:=rfl
@[simp]theorem tb_328:tb 328=some { size:=1,bytes:=24,zero:=[.nl],sl:=some 292 }:=rfl
@[simp]theorem tb_339:tb 339=some { size:=1,bytes:=4,zero:=[.d (.int .u32 0)] }:=rfl
@[simp]theorem tb_348:tb 348=some { size:=1,bytes:=24,zero:=[.nl],sl:=some 47 }:=rfl
end Go.Va
