/- a part of the proof -/
import Derived.Test.YtplacedebenpaaaGreatDoorEab
import Derived.Test.YtplacedebenpaaaGreatDoorProg
set_option linter.all false
set_option maxRecDepth 20000
namespace Go.Va
open _root_.ByteArray renaming empty → aD
open _root_.List renaming replicate → aG
open Go.Proofs
def Re:TI:={ size:=1,bytes:=8,zero:=[.d .nilFn] }
def Oa:TI:={ size:=1,bytes:=8,zero:=[.d (.int .i64 0)] }
def Ri:TI:={ size:=1,bytes:=1,zero:=[.d (.bool false)] }
def FT:TI:={ size:=1,bytes:=1,zero:=[.d (.int .u8 0)] }
def Pv:TI:={ agg:=true,size:=4,bytes:=24,zero:=[.d (.int .i64 0),.d (.int .i64 0),.d (.bool false),.d (.int .u8 0)],flds:=[(0,2),(1,3),(2,4),(3,6)],flat:=true }
def Pm:TI:={ size:=1,bytes:=16,zero:=[.d (.str aD)] }
def R8:TI:={ size:=1,bytes:=8,zero:=[.d (.int .u64 0)] }
def TA:TI:={ size:=1,bytes:=16,zero:=[.d (.lit .nilIface)] }
def T5:TI:={ size:=1,bytes:=4,zero:=[.d (.int .i32 0)] }
def NY:TI:={ size:=1,bytes:=24,zero:=[.nl],sl:=some 44 }
def Se:TI:={ size:=1,bytes:=24,zero:=[.nl],sl:=some 46 }
def Pe:TI:={ agg:=true,size:=2,bytes:=48,zero:=[.nl,.nl],flds:=[(0,22),(1,23)] }
def La:TI:={ size:=1,bytes:=24,zero:=[.nl],sl:=some 3 }
def jBT:TI:={ size:=1,bytes:=24,zero:=[.nl],sl:=some 275 }
def PI:TI:={ agg:=true,size:=2,bytes:=32,zero:=[.d (.bool false),.nl],flds:=[(0,4),(1,28)] }
def jsj:TI:={ agg:=true,size:=3,bytes:=56,zero:=[.d (.bool false),.nl,.nl],flds:=[(0,30),(2,28)] }
def ST:TI:={ agg:=true,size:=5,bytes:=88,zero:=[.d (.int .i64 0),.nl,.d (.bool false),.nl,.nl],flds:=[(0,3),(1,26),(2,32)] }
def Sn:TI:={ agg:=true,size:=7,bytes:=120,zero:=[.d (.int .i64 0),.nl,.d (.bool false),.nl,.nl,.d (.int .i64 0),.nl],flds:=[(0,34),(5,3),(6,26)] }
def jfn:TI:={ agg:=true,size:=2,bytes:=32,zero:=[.d (.int .i64 0),.nl],flds:=[(0,3),(1,26)] }
def KS:TI:={ size:=1,bytes:=24,zero:=[.nl],sl:=some 79 }
def jdI:TI:={ size:=1,bytes:=24,zero:=[.nl],sl:=some 34 }
def jhq:TI:={ agg:=true,size:=2,bytes:=48,zero:=[.nl,.nl],flds:=[(0,47),(1,48)] }
def ZL:TI:={ size:=1,bytes:=24,zero:=[.nl],sl:=some 9 }
def jpA:TI:={ size:=1,bytes:=24,zero:=[.nl],sl:=some 4 }
def jrR:TI:={ size:=1,bytes:=8,zero:=[.d (.lit (.map none))],mp:=true,mpi:=true }
def jpg:TI:={ agg:=true,size:=6,bytes:=104,zero:=[.d (.int .i64 0),.d (.str aD),.nl,.d (.bool false),.nl,.nl],flds:=[(0,3),(1,9),(2,26),(3,32)] }
def jeX:TI:={ size:=1,bytes:=24,zero:=[.nl],sl:=some 5 }
def jnh:TI:={ size:=1,bytes:=8,zero:=[.d .nilPtr] }
def jA2:TI:={ agg:=true,size:=2,bytes:=32,zero:=[.d .nilPtr,.nl],flds:=[(0,89),(1,81)] }
def jnX:TI:={ size:=1,bytes:=8,zero:=[.d (.lit (.map none))],mp:=true }
def jro:TI:={ size:=1,bytes:=24,zero:=[.nl],sl:=some 116 }
def jqU:TI:={ agg:=true,size:=6,bytes:=112,zero:=[.d (.int .i64 0),.nl,.d (.bool false),.nl,.nl,.nl],flds:=[(0,34),(5,23)] }
def jsF:TI:={ size:=1,bytes:=24,zero:=[.nl],sl:=some 126 }
def joR:TI:={ agg:=true,size:=2,bytes:=16,zero:=[.d (.int .i64 0),.d (.int .i64 0)],flds:=[(0,3),(1,3)],flat:=true }
def Yy:TI:={ size:=1,bytes:=24,zero:=[.nl],sl:=some 146 }
def jfz:TI:={ agg:=true,size:=8,bytes:=144,zero:=[.d (.int .i64 0),.nl,.d (.bool false),.nl,.nl,.d (.int .i64 0),.nl,.nl],flds:=[(0,44),(7,23)] }
def jry:TI:={ agg:=true,size:=1,bytes:=8,zero:=[.d .nilFn],flds:=[(0,84)] }
def jdA:TI:={ size:=1,bytes:=24,zero:=[.nl],sl:=some 246 }
def jbc:TI:={ agg:=true,size:=6,bytes:=104,zero:=[.d (.str aD),.nl,.nl,.nl,.d (.int .i64 0),.d .nilFn],flds:=[(0,9),(1,162),(2,162),(3,162),(4,3),(5,163)] }
def joL:TI:={ size:=1,bytes:=4,zero:=[.d (.int .u32 0)] }
def jbx:TI:={ size:=1,bytes:=2,zero:=[.d (.int .i16 0)] }
def jqw:TI:={ agg:=true,size:=26,bytes:=52,zero:=aG 26 (.d (.int .i16 0)),arr:=some (26,188),flat:=true }
def jrJ:TI:={ size:=1,bytes:=24,zero:=[.nl],sl:=some 265 }
def jsv:TI:={ agg:=true,size:=4,bytes:=88,zero:=[.d (.str aD),.nl,.nl,.nl],flds:=[(0,9),(1,192),(2,192),(3,192)] }
def js4:TI:={ size:=1,bytes:=24,zero:=[.nl],sl:=some 215 }
def jq7:TI:={ agg:=true,size:=7,bytes:=136,zero:=[.d (.int .i64 0),.nl,.d (.bool false),.nl,.nl,.nl,.nl],flds:=[(0,34),(5,26),(6,23)] }
def jr0:TI:={ size:=1,bytes:=24,zero:=[.nl],sl:=some 235 }
def jcQ:TI:={ agg:=true,size:=2,bytes:=16,zero:=[.d (.int .i64 0),.d (.int .i64 0)],arr:=some (2,3),flat:=true }
def jn3:TI:={ agg:=true,size:=26,bytes:=208,zero:=aG 26 (.d (.int .i64 0)),arr:=some (26,3),flat:=true }
def jsM:TI:={ agg:=true,size:=52,bytes:=416,zero:=aG 52 (.d (.int .i64 0)),arr:=some (26,240) }
def jn2:TI:={ agg:=true,size:=78,bytes:=624,zero:=aG 78 (.d (.int .i64 0)),flds:=[(0,239),(26,241)] }
def jof:TI:={ agg:=true,size:=3,bytes:=32,zero:=[.d (.int .i64 0),.d (.str aD),.d (.int .i64 0)],flds:=[(0,3),(1,9),(2,3)] }
def Zt:TI:={ size:=1,bytes:=24,zero:=[.nl],sl:=some 260 }
def MN:TI:={ agg:=true,size:=5,bytes:=72,zero:=[.d (.int .i64 0),.d (.int .i64 0),.d (.bool false),.nl,.nl],flds:=[(0,3),(1,3),(2,32)] }
def jrf:TI:={ agg:=true,size:=4,bytes:=40,zero:=[.d (.int .i64 0),.d (.str aD),.d (.bool false),.d (.int .i64 0)],flds:=[(0,3),(1,9),(2,4),(3,3)] }
def jnY:TI:={ size:=1,bytes:=24,zero:=[.nl],sl:=some 26 }
def jdK:TI:={ size:=1,bytes:=2,zero:=[.d (.int .u16 0)] }
def jdw:TI:={ size:=1,bytes:=24,zero:=[.nl],sl:=some 135 }
def jsn:TI:={ size:=1,bytes:=24,zero:=[.nl],sl:=some 281 }
def jdH:TI:={ size:=1,bytes:=24,zero:=[.nl],sl:=some 344 }
def jpI:TI:={ agg:=true,size:=6,bytes:=96,zero:=[.nl,.nl,.nl,.d (.int .i64 0),.d (.int .i64 0),.d (.int .i64 0)],flds:=[(0,55),(1,26),(2,55),(3,3),(4,3),(5,38)] }
def jAu:TI:={ agg:=true,size:=4,bytes:=32,zero:=[.d (.int .i64 0),.d (.int .i64 0),.d (.int .i64 0),.d (.int .i64 0)],arr:=some (2,235) }
def jeQ:TI:={ size:=1,bytes:=24,zero:=[.nl],sl:=some 310 }
def jrM:TI:={ size:=1,bytes:=24,zero:=[.nl],sl:=some 322 }
def jeI:TI:={ size:=1,bytes:=24,zero:=[.nl],sl:=some 240 }
def jn5:TI:={ agg:=true,size:=2,bytes:=16,zero:=[.d (.int .i64 0),.d (.int .u16 0)],flds:=[(0,3),(1,275)],flat:=true }
def jye:TI:={ agg:=true,size:=4,bytes:=32,zero:=[.d (.int .i64 0),.d (.int .i64 0),.d (.int .i64 0),.d (.int .i64 0)],arr:=some (4,3),flat:=true }
def jB8:TI:={ agg:=true,size:=32,bytes:=256,zero:=aG 32 (.d (.int .i64 0)),arr:=some (8,402) }
def rN(n:Nat):List (Option TI):=aG n none
def I9:List (Option TI):=[none,some Re,some Oa,some Oa,some Ri,some FT,some FT,some Pv,some Pv,some Pm,some Pm,some Pm,some R8]++(rN 7++([some TA,some T5,some NY,some Se,none,some Pe,some La,some jBT,some jBT,some PI,some PI,none,some jsj,none,some ST,none,some Re,some Re,some Oa,none,none,none,none,none,some Sn,none,some jfn,some KS,some jdI,none,some jhq,none,none,none,none,some ZL]++(rN 6++([some Re,some jpA,none,none,some jrR,none,none,none,some Re,none,some Re]++(rN 6++([some jpg,none,some jeX,none,none,some Re,none,none,none,none,some jnh,none,some jA2,none,none,some TA,none,none,none,none,some jnX]++(rN 6++([some Re]++(rN 6++([some jro,none,none,some jqU,none,none,some R8,none,none,none,some jsF,none,none,some jqU]++(rN 8++([some joR]++(rN 7++([some Yy,none,none,some jfz]++(rN 13++([some jry,none,some jdA,some Re,none,some jbc,none,none,none,some Re,some Re,some Re,none,none,some Re]++(rN 8++([some joL,none,some R8,none,none,some jbx,none,some jqw,none,some jrJ,none,some jsv]++(rN 17++([some js4,none,none,some jq7]++(rN 16++([some jr0,none,some jcQ,some jcQ,none,none,some Re,some jn3,some jcQ,some jsM,none,some jn2,none,none,some jof,some Re]++(rN 7++([some jnh,none,some Zt,none,none,some MN,none,none,none,none,some jrf,none,some jnY]++(rN 7++([some jdK,none,none,some jdw,none,some jsn,some jdH]++(rN 12++([some jnh,none,some jpI]++(rN 8++([some Re,none,none,none,some jAu,some jnh,some jeQ]++(rN 8++([some jrM,none,some jeI]++(rN 21++([some jfn,none,some jn5]++(rN 53++([some jnh,none,some jye,some jB8]))))))))))))))))))))))))))))))))))))
def tb:AH:=λt=>(I9[t]?).join
def TM(P:Program):Nat->List (Option TI)->Bool
 |_,[]=>true
 |k,o::r=>(match o with|some i=>HB P k i|none=>true)&&TM P (k+1) r
theorem PH{P:Program}: ∀(l:List (Option TI)) (k:Nat),TM P k l=true-> ∀t i,l[t]? =some (some i)->HB P (k+t) i=true
 |[],_,_,_,_,h=>by simp at h
 |o::r,k,a,0,i,h=>by
  simp only[List.getElem?_cons_zero,Option.some.injEq]at h;subst h;unfold TM at a;simpa using (AR _ _ ▸ a).1
 |o::r,k,a,t+1,i,h=>by
  unfold TM at a;have:=PH r (k+1) (by simpa using (AR _ _ ▸ a).2) t i (by simpa using h);rwa [show k+1+t=k+(t+1) by omega]at this
theorem jea:TM Tryz.prog 0 I9=true:=O4
theorem Ak:Dk Tryz.prog tb:=λt i h=>by
 have:=PH I9 0 jea t i (by unfold tb at h;cases a:I9[t]? <;>simp[a]at h;rw[h]);rwa [Nat.zero_add]at this
theorem mixed:Tryz.prog.follows .mixedOrders=true:=O4
@[simp]theorem tb_3:tb 3=some { size:=1,bytes:=8,zero:=[.d (.int .i64 0)] }:=rfl
@[simp]theorem tb_4:tb 4=some { size:=1,bytes:=1,zero:=[.d (.bool false)] }:=rfl
@[simp]theorem tb_5:tb 5=some { size:=1,bytes:=1,zero:=[.d (.int .u8 0)] }:=rfl
@[simp]theorem tb_9:tb 9=some { size:=1,bytes:=16,zero:=[.d (.str aD)] }:=rfl
@[simp]theorem tb_21:tb 21=some { size:=1,bytes:=4,zero:=[.d (.int .i32 0)] }:=rfl
@[simp]theorem tb_22:tb 22=some { size:=1,bytes:=24,zero:=[.nl],sl:=some 44 }:=rfl
@[simp]theorem tb_23:tb 23=some { size:=1,bytes:=24,zero:=[.nl],sl:=some 46 }:=rfl
@[simp]theorem tb_25:tb 25=some { agg:=true,size:=2,bytes:=48,zero:=[.nl,.nl],flds:=[(0,22),(1,23)] }:=rfl
@[simp]theorem tb_26:tb 26=some { size:=1,bytes:=24,zero:=[.nl],sl:=some 3 }:=rfl
@[simp]theorem tb_28:tb 28=some { size:=1,bytes:=24,zero:=[.nl],sl:=some 275 }:=rfl
@[simp]theorem tb_30:tb 30=some { agg:=true,size:=2,bytes:=32,zero:=[.d (.bool false),.nl],flds:=[(0,4),(1,28)] }:=rfl
@[simp]theorem tb_32:tb 32=some { agg:=true,size:=3,bytes:=56,zero:=[.d (.bool false),.nl,.nl],flds:=[(0,30),(2,28)] }:=rfl
@[simp]theorem tb_34:tb 34=some { agg:=true,size:=5,bytes:=88,zero:=[.d (.int .i64 0),.nl,.d (.bool false),.nl,.nl],flds:=[(0,3),(1,26),(2,32)] }:=rfl
@[simp]theorem tb_36:tb 36=some { size:=1,bytes:=8,zero:=[.d .nilFn] }:=rfl
@[simp]theorem tb_38:tb 38=some { size:=1,bytes:=8,zero:=[.d (.int .i64 0)] }:=rfl
@[simp]theorem tb_44:tb 44=some { agg:=true,size:=7,bytes:=120,zero:=[.d (.int .i64 0),.nl,.d (.bool false),.nl,.nl,.d (.int .i64 0),.nl],flds:=[(0,34),(5,3),(6,26)] }:=rfl
@[simp]theorem tb_46:tb 46=some { agg:=true,size:=2,bytes:=32,zero:=[.d (.int .i64 0),.nl],flds:=[(0,3),(1,26)] }:=rfl
@[simp]theorem tb_48:tb 48=some { size:=1,bytes:=24,zero:=[.nl],sl:=some 34 }:=rfl
@[simp]theorem tb_62:tb 62=some { size:=1,bytes:=8,zero:=[.d .nilFn] }:=rfl
@[simp]theorem tb_63:tb 63=some { size:=1,bytes:=24,zero:=[.nl],sl:=some 4 }:=rfl
@[simp]theorem tb_66:tb 66=some { size:=1,bytes:=8,zero:=[.d (.lit (.map none))],mp:=true,mpi:=true }:=rfl
@[simp]theorem tb_70:tb 70=some { size:=1,bytes:=8,zero:=[.d .nilFn] }:=rfl
@[simp]theorem tb_72:tb 72=some { size:=1,bytes:=8,zero:=[.d .nilFn] }:=rfl
@[simp]theorem tb_84:tb 84=some { size:=1,bytes:=8,zero:=[.d .nilFn] }:=rfl
@[simp]theorem tb_113:tb 113=some { size:=1,bytes:=24,zero:=[.nl],sl:=some 116 }:=rfl
@[simp]theorem tb_116:tb 116=some { agg:=true,size:=6,bytes:=112,zero:=[.d (.int .i64 0),.nl,.d (.bool false),.nl,.nl,.nl],flds:=[(0,34),(5,23)] }:=rfl
@[simp]theorem tb_119:tb 119=some { size:=1,bytes:=8,zero:=[.d (.int .u64 0)] }:=rfl
@[simp]theorem tb_123:tb 123=some { size:=1,bytes:=24,zero:=[.nl],sl:=some 126 }:=rfl
@[simp]theorem tb_126:tb 126=some { agg:=true,size:=6,bytes:=112,zero:=[.d (.int .i64 0),.nl,.d (.bool false),.nl,.nl,.nl],flds:=[(0,34),(5,23)] }:=rfl
@[simp]theorem tb_135:tb 135=some { agg:=true,size:=2,bytes:=16,zero:=[.d (.int .i64 0),.d (.int .i64 0)],flds:=[(0,3),(1,3)],flat:=true }:=rfl
@[simp]theorem tb_160:tb 160=some { agg:=true,size:=1,bytes:=8,zero:=[.d .nilFn],flds:=[(0,84)] }:=rfl
@[simp]theorem tb_162:tb 162=some { size:=1,bytes:=24,zero:=[.nl],sl:=some 246 }:=rfl
@[simp]theorem tb_163:tb 163=some { size:=1,bytes:=8,zero:=[.d .nilFn] }:=rfl
@[simp]theorem tb_165:tb 165=some { agg:=true,size:=6,bytes:=104,zero:=[.d (.str aD),.nl,.nl,.nl,.d (.int .i64 0),.d .nilFn],flds:=[(0,9),(1,162),(2,162),(3,162),(4,3),(5,163)] }:=rfl
@[simp]theorem tb_170:tb 170=some { size:=1,bytes:=8,zero:=[.d .nilFn] }:=rfl
@[simp]theorem tb_171:tb 171=some { size:=1,bytes:=8,zero:=[.d .nilFn] }:=rfl
@[simp]theorem tb_174:tb 174=some { size:=1,bytes:=8,zero:=[.d .nilFn] }:=rfl
@[simp]theorem tb_183:tb 183=some { size:=1,bytes:=4,zero:=[.d (.int .u32 0)] }:=rfl
@[simp]theorem tb_185:tb 185=some { size:=1,bytes:=8,zero:=[.d (.int .u64 0)] }:=rfl
@[simp]theorem tb_188:tb 188=some { size:=1,bytes:=2,zero:=[.d (.int .i16 0)] }:=rfl
@[simp]theorem tb_190:tb 190=some { agg:=true,size:=26,bytes:=52,zero:=aG 26 (.d (.int .i16 0)),arr:=some (26,188),flat:=true }:=rfl
@[simp]theorem tb_192:tb 192=some { size:=1,bytes:=24,zero:=[.nl],sl:=some 265 }:=rfl
@[simp]theorem tb_194:tb 194=some { agg:=true,size:=4,bytes:=88,zero:=[.d (.str aD),.nl,.nl,.nl],flds:=[(0,9),(1,192),(2,192),(3,192)] }:=rfl
@[simp]theorem tb_232:tb 232=some { size:=1,bytes:=24,zero:=[.nl],sl:=some 235 }:=rfl
@[simp]theorem tb_234:tb 234=some { agg:=true,size:=2,bytes:=16,zero:=[.d (.int .i64 0),.d (.int .i64 0)],arr:=some (2,3),flat:=true }:=rfl
@[simp]theorem tb_235:tb 235=some { agg:=true,size:=2,bytes:=16,zero:=[.d (.int .i64 0),.d (.int .i64 0)],arr:=some (2,3),flat:=true }:=rfl
@[simp]theorem tb_238:tb 238=some { size:=1,bytes:=8,zero:=[.d .nilFn] }:=rfl
@[simp]theorem tb_239:tb 239=some { agg:=true,size:=26,bytes:=208,zero:=aG 26 (.d (.int .i64 0)),arr:=some (26,3),flat:=true }:=rfl
@[simp]theorem tb_240:tb 240=some { agg:=true,size:=2,bytes:=16,zero:=[.d (.int .i64 0),.d (.int .i64 0)],arr:=some (2,3),flat:=true }:=rfl
@[simp]theorem tb_241:tb 241=some { agg:=true,size:=52,bytes:=416,zero:=aG 52 (.d (.int .i64 0)),arr:=some (26,240) }:=rfl
@[simp]theorem tb_243:tb 243=some { agg:=true,size:=78,bytes:=624,zero:=aG 78 (.d (.int .i64 0)),flds:=[(0,239),(26,241)] }:=rfl
@[simp]theorem tb_246:tb 246=some { agg:=true,size:=3,bytes:=32,zero:=[.d (.int .i64 0),.d (.str aD),.d (.int .i64 0)],flds:=[(0,3),(1,9),(2,3)] }:=rfl
@[simp]theorem tb_255:tb 255=some { size:=1,bytes:=8,zero:=[.d .nilPtr] }:=rfl
@[simp]theorem tb_257:tb 257=some { size:=1,bytes:=24,zero:=[.nl],sl:=some 260 }:=rfl
@[simp]theorem tb_260:tb 260=some { agg:=true,size:=5,bytes:=72,zero:=[.d (.int .i64 0),.d (.int .i64 0),.d (.bool false),.nl,.nl],flds:=[(0,3),(1,3),(2,32)] }:=rfl
@[simp]theorem tb_265:tb 265=some { agg:=true,size:=4,bytes:=40,zero:=[.d (.int .i64 0),.d (.str aD),.d (.bool false),.d (.int .i64 0)],flds:=[(0,3),(1,9),(2,4),(3,3)] }:=rfl
@[simp]theorem tb_267:tb 267=some { size:=1,bytes:=24,zero:=[.nl],sl:=some 26 }:=rfl
@[simp]theorem tb_275:tb 275=some { size:=1,bytes:=2,zero:=[.d (.int .u16 0)] }:=rfl
@[simp]theorem tb_278:tb 278=some { size:=1,bytes:=24,zero:=[.nl],sl:=some 135 }:=rfl
@[simp]theorem tb_309:tb 309=some { agg:=true,size:=4,bytes:=32,zero:=[.d (.int .i64 0),.d (.int .i64 0),.d (.int .i64 0),.d (.int .i64 0)],arr:=some (2,235) }:=rfl
@[simp]theorem tb_310:tb 310=some { size:=1,bytes:=8,zero:=[.d .nilPtr] }:=rfl
@[simp]theorem tb_311:tb 311=some { size:=1,bytes:=24,zero:=[.nl],sl:=some 310 }:=rfl
@[simp]theorem tb_320:tb 320=some { size:=1,bytes:=24,zero:=[.nl],sl:=some 322 }:=rfl
@[simp]theorem tb_322:tb 322=some { size:=1,bytes:=24,zero:=[.nl],sl:=some 240 }:=rfl
@[simp]theorem tb_346:tb 346=some { agg:=true,size:=2,bytes:=16,zero:=[.d (.int .i64 0),.d (.int .u16 0)],flds:=[(0,3),(1,275)],flat:=true }:=rfl
@[simp]theorem tb_400:tb 400=some { size:=1,bytes:=8,zero:=[.d .nilPtr] }:=rfl
@[simp]theorem tb_402:tb 402=some { agg:=true,size:=4,bytes:=32,zero:=[.d (.int .i64 0),.d (.int .i64 0),.d (.int .i64 0),.d (.int .i64 0)],arr:=some (4,3),flat:=true }:=rfl
@[simp]theorem tb_403:tb 403=some { agg:=true,size:=32,bytes:=256,zero:=aG 32 (.d (.int .i64 0)),arr:=some (8,402) }:=rfl
end Go.Va
