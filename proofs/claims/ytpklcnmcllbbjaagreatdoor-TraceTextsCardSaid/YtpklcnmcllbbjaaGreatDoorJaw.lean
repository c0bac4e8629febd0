/- a part of the proof -/
import Derived.Test.YtpklcnmcllbbjaaGreatDoorJav
import Derived.Test.YtpklcnmcllbbjaaGreatDoorJai
import Derived.Test.YtpklcnmcllbbjaaGreatDoorJaa
import Derived.Lib.ItoaNum
set_option linter.all false
set_option maxHeartbeats 4000000
set_option maxRecDepth 10000
namespace Go.Va
open Int renaming natCast_add → qA, natCast_mul → qB, natCast_emod → qC, natCast_ediv → qD, natCast_pow → qE
open List renaming reduceReplicate → qF
open Go.Proofs
def A4:Nat→Rul
 |1=>⟨[112,97,114,97,108,108,101,108],[BE [115,116],BE [115,117]],[BE [116,117]],[BF [115]],0,.nilFn⟩
 |2=>⟨[112,101,114,112,101,110,100,105,99,117,108,97,114],[BE [115,116],BJ [115,117]],[BJ [116,117]],[BF [115]],0,.nilFn⟩
 |3=>⟨[110,111,114,109,97,108,115],[BJ [115,116],BJ [115,117]],[BE [116,117]],[BF [115]],0,.nilFn⟩
 |4=>⟨[108,101,110,103,116,104,115],[],[],[],2,.fn 248 []⟩
 |5=>⟨[109,105,100,112,111,105,110,116],[BA [77,65,66]],[E4 [77,65,66],Bv [77,65,77,66],Ft [65,66,77,65] 4],[],0,.nilFn⟩
 |6=>⟨[109,105,100,108,105,110,101],[BA [77,65,66],BA [78,65,67]],[BE [77,78,66,67],Ft [66,67,77,78] 4],[],0,.nilFn⟩
 |7=>⟨[100,105,97,103,111,110,97,108,115],[BA [77,65,66],BA [77,67,68]],[BE [65,67,66,68],Bv [65,67,66,68]],[],0,.nilFn⟩
 |8=>⟨[117,110,105,113,117,101],[BA [77,65,66],BA [78,65,66]],[GR [77,78]],[],0,.nilFn⟩
 |9=>⟨[115,117,98,115,116,105,116,117,116,105,111,110],[],[],[],2,.fn 254 []⟩
 |10=>⟨[101,113,117,105,100,105,115,116,97,110,116],[Bv [80,65,80,66],Bv [81,65,81,66]],[BJ [65,66,80,81]],[],0,.nilFn⟩
 |11=>⟨[99,105,114,99,108,101],[Bv [79,65,79,66],Bv [79,65,79,67],Bv [79,65,79,68]],[C3 [65,66,67,68]],[],0,.nilFn⟩
 |12=>⟨[99,111,110,99,121,99,108,105,99],[C3 [65,66,67,68],C3 [65,66,67,69]],[C3 [65,66,68,69]],[Dw [65,66,67]],0,.nilFn⟩
 |13=>⟨[105,110,115,99,114,105,98,101,100],[C3 [65,66,67,68]],[Bx [67,65,67,66,68,65,68,66]],[],0,.nilFn⟩
 |14=>⟨[97,114,99],[Bx [67,65,67,66,68,65,68,66]],[C3 [65,66,67,68]],[],0,.nilFn⟩
 |15=>⟨[115,117,109,115],[Bx [117,115,116,118],Bx [115,119,120,116]],[Bx [117,119,120,118]],[BF [115],BF [116]],0,.nilFn⟩
 |16=>⟨[100,105,102,102,101,114,101,110,99,101,115],[Bx [115,116,117,118],Bx [115,116,119,120]],[Bx [119,117,120,118]],[BF [115],BF [116]],0,.nilFn⟩
 |17=>⟨[100,105,114,101,99,116,105,111,110,115],[Bx [115,117,118,119],BE [115,116]],[Bx [116,117,118,119]],[BF [115]],0,.nilFn⟩
 |18=>⟨[100,105,97,109,101,116,101,114],[BJ [67,65,67,66],BJ [68,65,68,66]],[C3 [65,66,67,68]],[],0,.nilFn⟩
 |19=>⟨[99,97,110,99,101,108],[Bx [115,115,116,117]],[BE [116,117]],[BF [115]],0,.nilFn⟩
 |20=>⟨[114,105,103,104,116],[Bx [115,116,117,118],BJ [115,116]],[BJ [117,118]],[BF [115],BF [116]],0,.nilFn⟩
 |21=>⟨[105,115,111,115,99,101,108,101,115],[Bv [79,65,79,66]],[Bx [79,65,65,66,65,66,79,66]],[],0,.nilFn⟩
 |22=>⟨[98,97,115,101],[Bx [79,65,65,66,65,66,79,66]],[Bv [79,65,79,66]],[Dw [79,65,66]],0,.nilFn⟩
 |23=>⟨[116,104,97,108,101,115],[BA [79,65,66],Bv [79,65,79,67]],[BJ [67,65,67,66]],[],0,.nilFn⟩
 |24=>⟨[104,121,112,111,116,101,110,117,115,101],[BA [77,65,66],BJ [67,65,67,66]],[Bv [77,65,77,67]],[],0,.nilFn⟩
 |25=>⟨[98,105,115,101,99,116,111,114],[BA [77,65,66],BJ [77,67,65,66]],[Bv [67,65,67,66]],[],0,.nilFn⟩
 |26=>⟨[115,105,100,101],[BA [77,65,66],BE [77,78,66,67],E4 [65,78,67]],[BA [78,65,67]],[Dw [65,66,67]],0,.nilFn⟩
 |27=>⟨[112,97,114,97,108,108,101,108,111,103,114,97,109],[BE [65,66,67,68],BE [65,67,66,68]],[Bv [65,66,67,68],Bv [65,67,66,68]],[Dw [65,66,67]],0,.nilFn⟩
 |28=>⟨[109,105,100,100,108,101],[E4 [77,65,66],Bv [77,65,77,66]],[BA [77,65,66]],[BF [65,66]],0,.nilFn⟩
 |_=> .zero
def Rul.res(r:Rul):R:= .u (.agg (r.ds.map .d))
theorem SX(n:Int)(h:n<10):CallsF Tryz.prog 157 [.c (.int .i64 n)] (Rul.res (if 1≤n then A4 n.toNat else .zero)):=by
 refine cO Tryz.func157 rfl ?_;by_cases h1:n=1
 rotate_left
 by_cases h2:n=2
 rotate_left
 by_cases h3:n=3
 rotate_left
 by_cases h4:n=4
 rotate_left
 by_cases h5:n=5
 rotate_left
 by_cases h6:n=6
 rotate_left
 by_cases h7:n=7
 rotate_left
 by_cases h8:n=8
 rotate_left
 by_cases h9:n=9
 rotate_left
 simp -implicitDefEqProofs[jJ,-qA,-qB,h1,h2,h3,h4,h5,h6,h7,h8,h9];rw[if_neg (by omega)]
 simp[Rul.res,Rul.ds,Rul.zero,MB,bs,show ByteArray.empty=⟨#[]⟩ from rfl]
 all_goals
  subst n;simp -implicitDefEqProofs[jJ,-qA,-qB]
  repeat ((first|refine .inl ⟨_,IC _ _,?_⟩|refine .inl ⟨_,I3 _,?_⟩|refine .inl ⟨_,Jn _,?_⟩|refine .inl ⟨_,J2 _,?_⟩|refine .inl ⟨_,J5 _,?_⟩|refine .inl ⟨_,If _,?_⟩|refine .inl ⟨_,Jt _,?_⟩|refine .inl ⟨_,Jd _,?_⟩|refine .inl ⟨_,JF _,?_⟩|refine .inl ⟨_,Jw _ _,?_⟩|refine .inl ⟨_,JD _,?_⟩|refine .inl ⟨_,IU _,?_⟩);simp -implicitDefEqProofs[jJ,-qA,-qB])
  simp[Rul.res,Rul.ds,A4,MB,Pat.ds,bs,BE,BJ,Bv,E4,BA,C3,Bx,GR,Ft,BF,Dw]
theorem SA(n:Int)(h:n<19):CallsF Tryz.prog 158 [.c (.int .i64 n)] (Rul.res (if 10≤n then A4 n.toNat else .zero)):=by
 refine cO Tryz.func158 rfl ?_;by_cases h10:n=10
 rotate_left
 by_cases h11:n=11
 rotate_left
 by_cases h12:n=12
 rotate_left
 by_cases h13:n=13
 rotate_left
 by_cases h14:n=14
 rotate_left
 by_cases h15:n=15
 rotate_left
 by_cases h16:n=16
 rotate_left
 by_cases h17:n=17
 rotate_left
 by_cases h18:n=18
 rotate_left
 simp -implicitDefEqProofs[jJ,-qA,-qB,h10,h11,h12,h13,h14,h15,h16,h17,h18];rw[if_neg (by omega)]
 simp[Rul.res,Rul.ds,Rul.zero,MB,bs,show ByteArray.empty=⟨#[]⟩ from rfl]
 all_goals
  subst n;simp -implicitDefEqProofs[jJ,-qA,-qB]
  repeat ((first|refine .inl ⟨_,IC _ _,?_⟩|refine .inl ⟨_,I3 _,?_⟩|refine .inl ⟨_,Jn _,?_⟩|refine .inl ⟨_,J2 _,?_⟩|refine .inl ⟨_,J5 _,?_⟩|refine .inl ⟨_,If _,?_⟩|refine .inl ⟨_,Jt _,?_⟩|refine .inl ⟨_,Jd _,?_⟩|refine .inl ⟨_,JF _,?_⟩|refine .inl ⟨_,Jw _ _,?_⟩|refine .inl ⟨_,JD _,?_⟩|refine .inl ⟨_,IU _,?_⟩);simp -implicitDefEqProofs[jJ,-qA,-qB])
  simp[Rul.res,Rul.ds,A4,MB,Pat.ds,bs,BE,BJ,Bv,E4,BA,C3,Bx,GR,Ft,BF,Dw]
theorem Vy(n:Int):CallsF Tryz.prog 159 [.c (.int .i64 n)] (Rul.res (if 19≤n∧n<29 then A4 n.toNat else .zero)):=by
 refine cO Tryz.func159 rfl ?_;by_cases h19:n=19
 rotate_left
 by_cases h20:n=20
 rotate_left
 by_cases h21:n=21
 rotate_left
 by_cases h22:n=22
 rotate_left
 by_cases h23:n=23
 rotate_left
 by_cases h24:n=24
 rotate_left
 by_cases h25:n=25
 rotate_left
 by_cases h26:n=26
 rotate_left
 by_cases h27:n=27
 rotate_left
 by_cases h28:n=28
 rotate_left
 simp -implicitDefEqProofs[jJ,-qA,-qB,h19,h20,h21,h22,h23,h24,h25,h26,h27,h28];rw[if_neg (by omega)]
 simp[Rul.res,Rul.ds,Rul.zero,MB,bs,show ByteArray.empty=⟨#[]⟩ from rfl]
 all_goals
  subst n;simp -implicitDefEqProofs[jJ,-qA,-qB]
  repeat ((first|refine .inl ⟨_,IC _ _,?_⟩|refine .inl ⟨_,I3 _,?_⟩|refine .inl ⟨_,Jn _,?_⟩|refine .inl ⟨_,J2 _,?_⟩|refine .inl ⟨_,J5 _,?_⟩|refine .inl ⟨_,If _,?_⟩|refine .inl ⟨_,Jt _,?_⟩|refine .inl ⟨_,Jd _,?_⟩|refine .inl ⟨_,JF _,?_⟩|refine .inl ⟨_,Jw _ _,?_⟩|refine .inl ⟨_,JD _,?_⟩|refine .inl ⟨_,IU _,?_⟩);simp -implicitDefEqProofs[jJ,-qA,-qB])
  simp[Rul.res,Rul.ds,A4,MB,Pat.ds,bs,BE,BJ,Bv,E4,BA,C3,Bx,GR,Ft,BF,Dw]
def rulT(n:Int):Rul:={ A4 n.toNat with count:=(A4 n.toNat).count+(A4 n.toNat).prem.length }
theorem Nh(n:Nat)(h:28<n):A4 n= .zero:=by
 unfold A4;split<;>first|omega|rfl
theorem PX(n:Int):(if n<10 then (if 1≤n then A4 n.toNat else Rul.zero) else if n<19 then (if 10≤n then A4 n.toNat else .zero) else (if 19≤n∧n<29 then A4 n.toNat else .zero))=A4 n.toNat:=by
 by_cases h1:n<10
 ·rw[if_pos h1]
  by_cases h2:1≤n
  ·rw[if_pos h2]
  ·rw[if_neg h2,show n.toNat=0 by omega];rfl
 rw[if_neg h1]
 by_cases h2:n<19
 ·rw[if_pos h2,if_pos (by omega)]
 rw[if_neg h2]
 by_cases h3:n<29
 ·rw[if_pos ⟨by omega,h3⟩]
 ·rw[if_neg (by omega),Nh n.toNat (by omega)]
theorem SE(n:Nat):(A4 n).count≤2∧0≤(A4 n).count∧(A4 n).prem.length≤3:=by
 unfold A4;split<;>simp[Rul.zero]
theorem Yz(n:Int):CallsF Tryz.prog 93 [.c (.int .i64 n)] (rulT n).res:=by
 have hs:=SE n.toNat;have e:=PX n;unfold rulT;generalize hR:A4 n.toNat=R at*;obtain⟨nm,p,c,g,k,d⟩:=R;simp only at hs;simp only[Rul.res,Rul.ds]at*;refine cO Tryz.func93 rfl ?_;by_cases h1:n<10
 ·have c1:=SX n h1;rw[if_pos h1]at e;rw[hR,e]at c1;simp only[Rul.res,Rul.ds]at c1;simp -implicitDefEqProofs[jJ,-qA,-qB,h1];refine Ac c1 ?_;simp -implicitDefEqProofs[jJ,-qA,-qB,MB]
  trace_state
  omega
 rw[if_neg h1]at e
 by_cases h2:n<19
 ·have c1:=SA n h2;rw[if_pos h2]at e;rw[hR,e]at c1;simp only[Rul.res,Rul.ds]at c1;simp -implicitDefEqProofs[jJ,-qA,-qB,h1,h2];refine Ac c1 ?_;simp -implicitDefEqProofs[jJ,-qA,-qB,MB]
  trace_state
  omega
 rw[if_neg h2]at e
 have c1:=Vy n;rw[hR,e]at c1;simp only[Rul.res,Rul.ds]at c1;simp -implicitDefEqProofs[jJ,-qA,-qB,h1,h2];refine Ac c1 ?_;simp -implicitDefEqProofs[jJ,-qA,-qB,MB];omega
end Go.Va
namespace Go.Va
open Go.Proofs
structure RPat where
 kind:Int
 letters:List UInt8
 seg:Bool
 num:Int
def RPat.ds(p:RPat):List D:=[.int .i64 p.kind,.str (bs p.letters),.bool p.seg,.int .i64 p.num]
theorem RPat.ds_len(p:RPat):p.ds.length=4:=rfl
def CQ(l:List RPat):D:= .slice l.length (l.flatMap RPat.ds)
end Go.Va
namespace Go.Va
open Int renaming natCast_add → qA, natCast_mul → qB, natCast_emod → qC, natCast_ediv → qD, natCast_pow → qE
open List renaming reduceReplicate → qF
open Go.Proofs
structure RRul where
 name:List UInt8
 frm:List RPat
 to:List RPat
 guards:List RPat
def RRul.ds(r:RRul):List D:=[.str (bs r.name),CQ r.frm,CQ r.to,CQ r.guards]
def RRul.zero:RRul:=⟨[],[],[],[]⟩
def RRul.res(r:RRul):R:= .u (.agg (r.ds.map .d))
def refN:Nat→RRul
 |1=>⟨[112,97,114,97,108,108,101,108],[⟨2,[115,116],true,0⟩,⟨2,[115,117],true,0⟩],[⟨2,[116,117],true,0⟩],[⟨1,[115],true,0⟩]⟩
 |2=>⟨[112,101,114,112,101,110,100,105,99,117,108,97,114],[⟨2,[115,116],true,0⟩,⟨3,[115,117],true,0⟩],[⟨3,[116,117],true,0⟩],[⟨1,[115],true,0⟩]⟩
 |3=>⟨[110,111,114,109,97,108,115],[⟨3,[115,116],true,0⟩,⟨3,[115,117],true,0⟩],[⟨2,[116,117],true,0⟩],[⟨1,[115],true,0⟩]⟩
 |4=>⟨[108,101,110,103,116,104,115],[⟨9,[115,116],true,0⟩,⟨9,[116,117],true,0⟩],[],[]⟩
 |5=>⟨[109,105,100,112,111,105,110,116],[⟨5,[109,97,98],false,0⟩],[⟨1,[109,97,98],false,0⟩,⟨4,[109,97,109,98],false,0⟩,⟨9,[97,98,109,97],false,4⟩],[]⟩
 |6=>⟨[109,105,100,108,105,110,101],[⟨5,[109,97,98],false,0⟩,⟨5,[110,97,99],false,0⟩],[⟨2,[109,110,98,99],false,0⟩,⟨9,[98,99,109,110],false,4⟩],[]⟩
 |7=>⟨[100,105,97,103,111,110,97,108,115],[⟨5,[109,97,98],false,0⟩,⟨5,[109,99,100],false,0⟩],[⟨2,[97,99,98,100],false,0⟩,⟨4,[97,99,98,100],false,0⟩],[]⟩
 |8=>⟨[117,110,105,113,117,101],[⟨5,[109,97,98],false,0⟩,⟨5,[110,97,98],false,0⟩],[⟨8,[109,110],false,0⟩],[]⟩
 |9=>⟨[115,117,98,115,116,105,116,117,116,105,111,110],[⟨8,[97,98],false,0⟩,⟨0,[],false,0⟩],[],[]⟩
 |10=>⟨[101,113,117,105,100,105,115,116,97,110,116],[⟨4,[112,97,112,98],false,0⟩,⟨4,[113,97,113,98],false,0⟩],[⟨3,[97,98,112,113],false,0⟩],[]⟩
 |11=>⟨[99,105,114,99,108,101],[⟨4,[111,97,111,98],false,0⟩,⟨4,[111,97,111,99],false,0⟩,⟨4,[111,97,111,100],false,0⟩],[⟨6,[97,98,99,100],false,0⟩],[]⟩
 |12=>⟨[99,111,110,99,121,99,108,105,99],[⟨6,[97,98,99,100],false,0⟩,⟨6,[97,98,99,101],false,0⟩],[⟨6,[97,98,100,101],false,0⟩],[⟨2,[97,98,99],false,0⟩]⟩
 |13=>⟨[105,110,115,99,114,105,98,101,100],[⟨6,[97,98,99,100],false,0⟩],[⟨7,[99,97,99,98,100,97,100,98],false,0⟩],[]⟩
 |14=>⟨[97,114,99],[⟨7,[99,97,99,98,100,97,100,98],false,0⟩],[⟨6,[97,98,99,100],false,0⟩],[]⟩
 |15=>⟨[115,117,109,115],[⟨7,[117,115,116,118],true,0⟩,⟨7,[115,119,120,116],true,0⟩],[⟨7,[117,119,120,118],true,0⟩],[⟨1,[115],true,0⟩,⟨1,[116],true,0⟩]⟩
 |16=>⟨[100,105,102,102,101,114,101,110,99,101,115],[⟨7,[115,116,117,118],true,0⟩,⟨7,[115,116,119,120],true,0⟩],[⟨7,[119,117,120,118],true,0⟩],[⟨1,[115],true,0⟩,⟨1,[116],true,0⟩]⟩
 |17=>⟨[100,105,114,101,99,116,105,111,110,115],[⟨7,[115,117,118,119],true,0⟩,⟨2,[115,116],true,0⟩],[⟨7,[116,117,118,119],true,0⟩],[⟨1,[115],true,0⟩]⟩
 |18=>⟨[100,105,97,109,101,116,101,114],[⟨3,[99,97,99,98],false,0⟩,⟨3,[100,97,100,98],false,0⟩],[⟨6,[97,98,99,100],false,0⟩],[]⟩
 |19=>⟨[99,97,110,99,101,108],[⟨7,[115,115,116,117],true,0⟩],[⟨2,[116,117],true,0⟩],[⟨1,[115],true,0⟩]⟩
 |20=>⟨[114,105,103,104,116],[⟨7,[115,116,117,118],true,0⟩,⟨3,[115,116],true,0⟩],[⟨3,[117,118],true,0⟩],[⟨1,[115],true,0⟩,⟨1,[116],true,0⟩]⟩
 |21=>⟨[105,115,111,115,99,101,108,101,115],[⟨4,[111,97,111,98],false,0⟩],[⟨7,[111,97,97,98,97,98,111,98],false,0⟩],[]⟩
 |22=>⟨[98,97,115,101],[⟨7,[111,97,97,98,97,98,111,98],false,0⟩],[⟨4,[111,97,111,98],false,0⟩],[⟨2,[111,97,98],false,0⟩]⟩
 |23=>⟨[116,104,97,108,101,115],[⟨5,[111,97,98],false,0⟩,⟨4,[111,97,111,99],false,0⟩],[⟨3,[99,97,99,98],false,0⟩],[]⟩
 |24=>⟨[104,121,112,111,116,101,110,117,115,101],[⟨5,[109,97,98],false,0⟩,⟨3,[99,97,99,98],false,0⟩],[⟨4,[109,97,109,99],false,0⟩],[]⟩
 |25=>⟨[98,105,115,101,99,116,111,114],[⟨5,[109,97,98],false,0⟩,⟨3,[109,99,97,98],false,0⟩],[⟨4,[99,97,99,98],false,0⟩],[]⟩
 |26=>⟨[115,105,100,101],[⟨5,[109,97,98],false,0⟩,⟨2,[109,110,98,99],false,0⟩,⟨1,[97,110,99],false,0⟩],[⟨5,[110,97,99],false,0⟩],[⟨2,[97,98,99],false,0⟩]⟩
 |27=>⟨[112,97,114,97,108,108,101,108,111,103,114,97,109],[⟨2,[97,98,99,100],false,0⟩,⟨2,[97,99,98,100],false,0⟩],[⟨4,[97,98,99,100],false,0⟩,⟨4,[97,99,98,100],false,0⟩],[⟨2,[97,98,99],false,0⟩]⟩
 |28=>⟨[109,105,100,100,108,101],[⟨1,[109,97,98],false,0⟩,⟨4,[109,97,109,98],false,0⟩],[⟨5,[109,97,98],false,0⟩],[⟨1,[97,98],false,0⟩]⟩
 |_=> .zero
theorem Dc(k:Int)(s:ByteArray):CallsF Tryz.prog 274 [.c (.int .i64 k),.c (.str s)] (.u (.agg [.d (.int .i64 k),.d (.str s),.d (.bool true),.d (.int .i64 0)])):=by
 refine cO Tryz.func274 rfl ?_;simp -implicitDefEqProofs[jJ,-qA,-qB]
theorem Dj(k:Int)(s:ByteArray):CallsF Tryz.prog 275 [.c (.int .i64 k),.c (.str s)] (.u (.agg [.d (.int .i64 k),.d (.str s),.d (.bool false),.d (.int .i64 0)])):=by
 refine cO Tryz.func275 rfl ?_;simp -implicitDefEqProofs[jJ,-qA,-qB]
theorem Hg(s:ByteArray):CallsF Tryz.prog 276 [.c (.str s)] (.u (.agg [.d (.int .i64 9),.d (.str s),.d (.bool false),.d (.int .i64 4)])):=by
 refine cO Tryz.func276 rfl ?_;simp -implicitDefEqProofs[jJ,-qA,-qB]
theorem X9(n:Int):CallsF Tryz.prog 173 [.c (.int .i64 n)] (RRul.res (if 1≤n∧n≤14 then refN n.toNat else .zero)):=by
 refine cO Tryz.func173 rfl ?_;simp -implicitDefEqProofs[jJ,-qA,-qB]
 repeat ((first|refine .inl ⟨_,Dc _ _,?_⟩|refine .inl ⟨_,Dj _ _,?_⟩);simp -implicitDefEqProofs[jJ,-qA,-qB])
 by_cases h1:n=1
 rotate_left
 by_cases h2:n=2
 rotate_left
 by_cases h3:n=3
 rotate_left
 by_cases h4:n=4
 rotate_left
 by_cases h5:n=5
 rotate_left
 by_cases h6:n=6
 rotate_left
 by_cases h7:n=7
 rotate_left
 by_cases h8:n=8
 rotate_left
 by_cases h9:n=9
 rotate_left
 by_cases h10:n=10
 rotate_left
 by_cases h11:n=11
 rotate_left
 by_cases h12:n=12
 rotate_left
 by_cases h13:n=13
 rotate_left
 by_cases h14:n=14
 rotate_left
 have hz: ¬(1≤n∧n≤14):=by omega
 rw[if_neg hz]
 simp -implicitDefEqProofs[jJ,-qA,-qB,h1,h2,h3,h4,h5,h6,h7,h8,h9,h10,h11,h12,h13,h14]
 try simp[RRul.res,RRul.ds,RRul.zero,CQ,bs]
 try rfl
 all_goals
  subst n;simp -implicitDefEqProofs[jJ,-qA,-qB]
  repeat ((first|refine .inl ⟨_,Dc _ _,?_⟩|refine .inl ⟨_,Dj _ _,?_⟩|refine .inl ⟨_,Hg _,?_⟩);simp -implicitDefEqProofs[jJ,-qA,-qB])
  try simp[RRul.res,RRul.ds,refN,CQ,RPat.ds,bs]
  try rfl
theorem P8(n:Int):CallsF Tryz.prog 174 [.c (.int .i64 n)] (RRul.res (if 15≤n∧n≤28 then refN n.toNat else .zero)):=by
 refine cO Tryz.func174 rfl ?_;simp -implicitDefEqProofs[jJ,-qA,-qB]
 repeat ((first|refine .inl ⟨_,Dc _ _,?_⟩|refine .inl ⟨_,Dj _ _,?_⟩);simp -implicitDefEqProofs[jJ,-qA,-qB])
 by_cases h15:n=15
 rotate_left
 by_cases h16:n=16
 rotate_left
 by_cases h17:n=17
 ·subst h17;simp -implicitDefEqProofs[jJ,-qA,-qB];refine AA (Ah [0,1,3,3,11,0,32,127,255]) [.any [] [30,32] (AG [30,32] [[],[]]++[⟨1,[28,29],[32],[32],[]⟩,⟨0,[],[30],[30,32],[]⟩,⟨1,[31],[30],[30],[]⟩,⟨0,[3],[30,32],[30,32],[]⟩,⟨0,[33],[30,32],[30,32],[]⟩]),.one,.one] (by rfl) ?_
  simp -implicitDefEqProofs[jJ,-qA,-qB]
  repeat ((first|refine .inl ⟨_,Dc _ _,?_⟩|refine .inl ⟨_,Dj _ _,?_⟩|refine .inl ⟨_,Hg _,?_⟩|refine⟨_,Dc _ _,?_⟩|refine⟨_,Dj _ _,?_⟩);simp -implicitDefEqProofs[jJ,-qA,-qB])
  try simp[RRul.res,RRul.ds,refN,CQ,RPat.ds,bs]
  try rfl
 by_cases h18:n=18
 rotate_left
 by_cases h19:n=19
 ·subst h19;simp -implicitDefEqProofs[jJ,-qA,-qB];refine AA (Ah [0,1,1,5,0,16,63,127]) [.any [] [47,49] [⟨0,[],[],[47,49],[]⟩,⟨1,[46],[49],[49],[]⟩,⟨0,[],[47],[47,49],[]⟩,⟨1,[48],[47],[47],[]⟩,⟨0,[3],[47,49],[47,49],[]⟩,⟨0,[50],[47,49],[47,49],[]⟩],.one,.one] (by rfl) ?_
  simp -implicitDefEqProofs[jJ,-qA,-qB]
  repeat ((first|refine .inl ⟨_,Dc _ _,?_⟩|refine .inl ⟨_,Dj _ _,?_⟩|refine .inl ⟨_,Hg _,?_⟩|refine⟨_,Dc _ _,?_⟩|refine⟨_,Dj _ _,?_⟩);simp -implicitDefEqProofs[jJ,-qA,-qB])
  try simp[RRul.res,RRul.ds,refN,CQ,RPat.ds,bs]
  try rfl
 by_cases h20:n=20
 rotate_left
 by_cases h21:n=21
 rotate_left
 by_cases h22:n=22
 rotate_left
 by_cases h23:n=23
 rotate_left
 by_cases h24:n=24
 rotate_left
 by_cases h25:n=25
 rotate_left
 by_cases h26:n=26
 rotate_left
 by_cases h27:n=27
 rotate_left
 by_cases h28:n=28
 rotate_left
 have hz: ¬(15≤n∧n≤28):=by omega
 rw[if_neg hz]
 simp -implicitDefEqProofs[jJ,-qA,-qB,h15,h16,h17,h18,h19,h20,h21,h22,h23,h24,h25,h26,h27,h28]
 try simp[RRul.res,RRul.ds,RRul.zero,CQ,bs]
 try rfl
 all_goals
  subst n;simp -implicitDefEqProofs[jJ,-qA,-qB]
  repeat ((first|refine .inl ⟨_,Dc _ _,?_⟩|refine .inl ⟨_,Dj _ _,?_⟩|refine .inl ⟨_,Hg _,?_⟩|refine⟨_,Dc _ _,?_⟩|refine⟨_,Dj _ _,?_⟩);simp -implicitDefEqProofs[jJ,-qA,-qB])
  try simp[RRul.res,RRul.ds,refN,CQ,RPat.ds,bs]
  try rfl
theorem LD(n:Nat)(h:28<n):refN n= .zero:=by
 unfold refN;split<;>first|omega|rfl
theorem TL(n:Int):CallsF Tryz.prog 100 [.c (.int .i64 n)] (refN n.toNat).res:=by
 refine cO Tryz.func100 rfl ?_;by_cases h:n≤14
 ·have k:=X9 n;have e:(if 1≤n∧n≤14 then refN n.toNat else RRul.zero)=refN n.toNat:=by
   split
   ·rfl
   ·rw[show n.toNat=0 by omega];rfl
  rw[e]at k
  generalize refN n.toNat=r at*;simp only[RRul.res,RRul.ds,CQ]at*;simp -implicitDefEqProofs[jJ,-qA,-qB,h];refine Ac k ?_;simp -implicitDefEqProofs[jJ,-qA,-qB]
 ·have k:=P8 n;have e:(if 15≤n∧n≤28 then refN n.toNat else RRul.zero)=refN n.toNat:=by
   split
   ·rfl
   ·rw[LD n.toNat (by omega)]
  rw[e]at k
  generalize refN n.toNat=r at*;simp only[RRul.res,RRul.ds,CQ]at*;simp -implicitDefEqProofs[jJ,-qA,-qB,h];refine Ac k ?_;simp -implicitDefEqProofs[jJ,-qA,-qB]
theorem ZA(n:Int):CallsF Tryz.prog 54 [.c (.int .i64 n)] (.u (.c (.d (.str (bs (if n=0 then [103,105,118,101,110] else (refN n.toNat).name)))))):=by
 have k1:=TL n;generalize refN n.toNat=r at*;simp only[RRul.res,RRul.ds,CQ]at k1;refine cO Tryz.func54 rfl ?_;by_cases h:n=0
 ·simp -implicitDefEqProofs[jJ,-qA,-qB,-qF,h];rfl
 ·simp -implicitDefEqProofs[jJ,-qA,-qB,-qF,h];refine Ac k1 ?_;simp -implicitDefEqProofs[jJ,-qA,-qB,-qF]
theorem Wt: ∀n:Fin 29,(A4 n).name=(refN n).name∧(n≠0→(A4 n).name≠[]∧(A4 n).count+(A4 n).prem.length=(refN n).frm.length):=by decide+kernel
theorem Qs(n:Int):(rulT n).name=(refN n.toNat).name:=by
 show(A4 n.toNat).name=_
 by_cases h:n.toNat<29
 ·exact(Wt ⟨n.toNat,h⟩).1
 ·rw[Nh _ (by omega),LD _ (by omega)];rfl
end Go.Va
namespace Go.Va
open Go.RowKit
def H6:Nat→Code→Code
 |0,_=> .skip
 |n+1,.seq x y=> .seq x (H6 n y)
 |_,_=> .goto 0
def back:Nat→Code→Code
 |0,c=>c
 |n+1,.seq _ y=>back n y
 |_,_=> .skip
def He(Mid:St→Prop)(Q:Bk):Bk:=fun e s=>match e with| .normal=>Mid s|e=>Q e s
section
variable [Gv] {P:Program} {T:AH} {X:Cx}
theorem OC(hT:A5 P T)(hY: ∀Y,X.Y=some Y→YlOk P Y)(hm:P.follows .mixedOrders=true){R:Exit→Act→World→Prop}{Mid:St→Prop}{Q:Bk}
  (hQ: ∀e a w,e≠ .normal→Jz X Q e a w→R e a w): ∀(n:Nat) (c:Code) (a:Act) (w:World),B6 X.n X.pin c=true→BX X (fun st=>Bl P T (H6 n c) st (He Mid Q)) a w→
  (∀a w,BX X Mid a w→(back n c).wp P R a w)→c.wp P R a w
 |0,c,a,w,_,h,hb=>hb a w h
 |n+1,.seq x y,a,w,hok,h,hb=>by
  simp only[B6,AR]at hok;refine wp_seq ((Dr hT hY hm x (DO (Bl P T (H6 n y)) (He Mid Q)) a w hok.1 h).mono' fun e a' w' he=> ?_)
  cases e
  case normal=>exact OC hT hY hm hQ n y a' w' hok.2 he hb
  all_goals exact hQ _ a' w' (by simp) he
 |n+1,.skip,a,w,_,⟨_,_,_,_,_,_,_,_,h⟩,_=>h.elim
 |n+1,.region _ _ _,a,w,_,⟨_,_,_,_,_,_,_,_,h⟩,_=>h.elim
 |n+1,.cond _ _ _,a,w,_,⟨_,_,_,_,_,_,_,_,h⟩,_=>h.elim
 |n+1,.block _ _,a,w,_,⟨_,_,_,_,_,_,_,_,h⟩,_=>h.elim
 |n+1,.loop _,a,w,_,⟨_,_,_,_,_,_,_,_,h⟩,_=>h.elim
 |n+1,.exit _,a,w,_,⟨_,_,_,_,_,_,_,_,h⟩,_=>h.elim
 |n+1,.ret,a,w,_,⟨_,_,_,_,_,_,_,_,h⟩,_=>h.elim
 |n+1,.rangeFunc _ _ _ _,a,w,_,⟨_,_,_,_,_,_,_,_,h⟩,_=>h.elim
 |n+1,.scope _,a,w,_,⟨_,_,_,_,_,_,_,_,h⟩,_=>h.elim
 |n+1,.label _,a,w,_,⟨_,_,_,_,_,_,_,_,h⟩,_=>h.elim
 |n+1,.goto _,a,w,_,⟨_,_,_,_,_,_,_,_,h⟩,_=>h.elim
 |n+1,.refuse _,a,w,_,⟨_,_,_,_,_,_,_,_,h⟩,_=>h.elim
end
theorem jht{P:Program}{T:AH}(hT:A5 P T)(hm:P.follows .mixedOrders=true){f:FuncId}{fn:Func}{c:Code}{bs:List A}{s:ByteArray}(n:Nat)(Mid:St→Prop)(hf:P.funcs[f]? =some fn)(hb:fn.body=some c)
  (hname : (fn.name == "runtime.NumGoroutine") = false) (hn : bs.length ≤ fn.ntmps) (hok : B6 fn.ntmps [] c = true)
  (hw: ∀[Gv],Bl P T (H6 n c) (St.init bs) (He Mid (HU T fn.results.toList (.u (.c (.d (.str s)))))))
  (hback: ∀[Gv] (Z:Addr→Prop) (w0 w:World) (ρ:AE) (st:St) (a:Act),Rel (fun _=>False) Z w0 ρ st a w→a.tmps.size=fn.ntmps→Mid st→
   (back n c).wp P (bodyPost P fn fun e w'=>e= .returned (.string s)∧Below w.heap.size w w'∧DR w.drawn w'.drawn) a w):CallsF P f bs (.u (.c (.d (.str s)))):=by
 refine⟨⟨fn,hf,by rw[hb];rfl,hname⟩,fun w Z vals hZ hvals=> ?_⟩
 have hlen:vals.length=bs.length:=hvals.1.symm
 refine calls_of_wp hf hb ?_;have hsz:(vals.toArray++Array.replicate (fn.ntmps - vals.toArray.size) undef).size=fn.ntmps:=by simp;omega
 have hrel:Rel (fun _=>False) Z w (fun _=>none) (St.init bs) { tmps:=vals.toArray++Array.replicate (fn.ntmps - vals.toArray.size) undef,defers:=[] } w:=
  {fr:=⟨rfl,DR.refl _,rfl,rfl,AO _,fun a v _ h=>h,fun _ _ _=>rfl,fun _ _ _=>rfl⟩
   heap:=⟨⟨fun i o hi=>(by cases hi),fun i i' o o' hi=>(by cases hi),fun i o hi=>(by cases hi)⟩,fun i b hb=>(by cases hb)⟩
   mine:=fun i o ad hi=>(by cases hi)
   out:=hZ.mono fun ad h=>h.elim id False.elim
   mz:=fun ad h=>h.elim
   tmps:=fun t v hv=>by
    obtain⟨_,x,hx,hr⟩:=Eg bs vals 0 hvals t v hv
    have ht:t<vals.length:=by simpa using (jzg.1 hx).1
    simp only[Nat.sub_zero]at hx;have:(vals.toArray++Array.replicate (fn.ntmps - vals.toArray.size) undef).getD t undef=x:=by
     rw[Cn,Array.getElem?_append_left (by simpa using ht)]
     simp[hx]
    rw[this]
    exact hr
   defers:=rfl
   mps:=fun i o hi=>by cases hi }
 refine OC (X:=⟨fun _=>False,Z,w,fn.ntmps,[],fun _=>undef,none,fun _=>False,fun _=>False⟩) hT (fun Y h=>by cases h) hm (Mid:=Mid) (Q:=HU T fn.results.toList (.u (.c (.d (.str s))))) ?_ n c _ w hok
  ⟨_,_,_,_,_,⟨fun k hk=>by simp at hk,fun _=>⟨rfl,rfl,rfl⟩,hrel.fr.mono fun _ h=> .inl h,fun _ h=>h,fun _ h=> .inl h,fun x r hh=>absurd hh (GU bs 0 YS x r)⟩,hrel,hsz,hw⟩ ?_
 ·intro e a' w' hne hg;obtain⟨M1,Z1,w1,ρ,st,hL,h1,h2,hend,v,hv,hl,hfit⟩:=hg;obtain⟨rfl,rfl,rfl⟩:=hL.plain rfl;obtain⟨x,hx,hrx⟩:=GT (P:=P) hT h1 hv;have hres:=Ts h1 hl hfit hrx;have hbel:Ext w1 w':=⟨⟨h1.fr.os,h1.fr.tape,h1.fr.output,h1.fr.size,fun k hk=>h1.fr.blk k hk (fun _ _ h=>h)⟩,h1.fr.drawn⟩
  rcases hend with rfl|rfl
  ·exact⟨h1.defers,x,hx,x,rfl,hbel,hres⟩
  ·exact⟨h1.defers,x,hx,x,rfl,hbel,hres⟩
 ·rintro a' w' ⟨M1,Z1,w1,ρ,st,hL,h1,h2,h3⟩
  obtain⟨rfl,rfl,rfl⟩:=hL.plain rfl
  have hbel:Ext w1 w':=⟨⟨h1.fr.os,h1.fr.tape,h1.fr.output,h1.fr.size,fun k hk=>h1.fr.blk k hk (fun _ _ h=>h)⟩,h1.fr.drawn⟩
  refine(hback _ _ w' ρ st a' h1 h2 h3).mono' fun e a2 w2 hg=> ?_
  have fin: ∀(e:Ending) (w2:World),(e= .returned (.string s)∧Below w'.heap.size w' w2∧DR w'.drawn w2.drawn)→ ∃v,e= .returned v∧Ext w1 w2∧Hb w1 w2 Z1 (.u (.c (.d (.str s)))) v:=by
   rintro e w2 ⟨rfl,hb,hd⟩
   refine⟨_,rfl,⟨hbel.toBelow.trans (hb.mono hbel.toBelow.size),hbel.drawn.trans hd⟩,by simp[R.rows,RU.rows,RC.rows],⟨0,0,0,0,false,false,true⟩,fun ad h=>(by cases h.1),fun k=>⟨RepD.str _,⟨⟨fun i o hi=>(by cases hi),fun i i' o o' hi=>(by cases hi),fun i o hi=>(by cases hi)⟩,fun i b hb=>(by cases hb)⟩⟩⟩
  cases e with
  |normal=>obtain⟨g1,v,g2,g3⟩:=hg;exact⟨g1,v,g2,fin _ _ g3⟩
  |ret=>obtain⟨g1,v,g2,g3⟩:=hg;exact⟨g1,v,g2,fin _ _ g3⟩
  |panic ch=>exact⟨hg.1,fin _ _ hg.2⟩
  |outgrown=>exact fin _ _ hg
  |exit _=>exact hg.elim
  |goto _=>exact hg.elim
end Go.Va
namespace Go.Va
open Go
theorem IT{n:Nat}(h:n<256):(UInt8.ofNat n).toNat=n:=by
 rw[UInt8.toNat_ofNat']
 exact AX h
theorem Nu(u:Nat):Lib.decDigits u≠[]:=by
 rw[Lib.decDigits]
 split<;>simp
def BL(neg:Bool)(m d:Nat):List UInt8:=(if neg then [45] else [])++(Lib.decDigits m++(if d=1 then [] else 47::Lib.decDigits d))
def BI(n:Nat):List UInt8:=if n=0 then [] else Lib.decDigits n
theorem digO_nil{n:Nat}:BI n=[]↔n=0:=by
 unfold BI;split
 ·simp[*]
 ·simp[*,Nu]
theorem digO_len{n:Nat}:0<(BI n).length↔n≠0:=by
 constructor
 ·intro h h0;rw[digO_nil.2 h0]at h;cases h
 ·intro h;rcases Nat.eq_zero_or_pos (BI n).length with h0|h0
  ·exact absurd (digO_nil.1 (jzv.1 h0)) h
  ·exact h0
theorem jkd{m x:Nat}(hx:x<10)(h:m*10+x≠0):BI (m*10+x)=BI m++[UInt8.ofNat (48+x)]:=by
 unfold BI;rw[if_neg h];split
 ·rename_i h0
  subst h0;rw[Lib.decDigits,dif_pos (by omega)]
  simp
 ·rename_i h0
  rw[Lib.decDigits,dif_neg (by omega),show(m*10+x)/10=m by omega,show(m*10+x)%10=x by omega]
def d1(out:List UInt8)(g d:Nat):List UInt8:=if 0<out.length∨d≤g then out++[UInt8.ofNat (48+g/d%10)] else out
theorem HY{m g d x n:Nat}(hx:g/d%10=x)(hn:m*10+x=n)(hc:d≤g→n≠0)(hm:m=0→n≠0→d≤g):d1 (BI m) g d=BI n:=by
 subst hn;subst hx;have hlt:g/d%10<10:=Nat.mod_lt _ (by omega)
 unfold d1;by_cases h:m*10+g/d%10=0
 ·have m0:m=0:=by omega
  rw[if_neg,h,m0]
  rintro (h1|h1)
  ·exact digO_len.1 h1 m0
  ·exact hc h1 h
 ·rw[if_pos,jkd hlt h]
  rcases Nat.eq_zero_or_pos m with m0|m0
  ·exact .inr (hm m0 h)
  ·exact .inl (digO_len.2 (by omega))
def d4(out:List UInt8)(g:Nat):List UInt8:=d1 (d1 (d1 (d1 out g 1000) g 100) g 10) g 1
theorem jaa{m g:Nat}(hg:g<10000):d4 (BI m) g=BI (m*10000+g):=by
 unfold d4;rw[HY (m:=m) (g:=g) (d:=1000) (n:=m*10+g/1000) rfl (by omega) (by omega) (by omega),
  HY (g:=g) (d:=100) (n:=m*100+g/100) rfl (by omega) (by omega) (by omega),
  HY (g:=g) (d:=10) (n:=m*1000+g/10) rfl (by omega) (by omega) (by omega),
  HY (g:=g) (d:=1) (n:=m*10000+g) rfl (by omega) (by omega) (by omega)]
def C5(m k:Nat):List Nat:=(List.range k).map fun j=>m/10000^j%10000
theorem jkt(m k:Nat):(C5 m k).length=k:=by simp[C5]
theorem jir(m k:Nat):C5 m (k+1)=C5 m k++[m/10000^k%10000]:=by simp[C5,List.range_succ]
theorem jiz{m k i:Nat}(h:i<k):(C5 m k)[i]? =some (m/10000^i%10000):=by simp[C5,h]
theorem NQ(m i:Nat):m/10000^(i+1)*10000+m/10000^i%10000=m/10000^i:=by
 rw[Nat.pow_succ,←Nat.div_div_eq_div_mul]
 omega
theorem jkc(m i:Nat):d4 (BI (m/10000^(i+1))) (m/10000^i%10000)=BI (m/10000^i):=by
 rw[jaa (Nat.mod_lt _ (by omega)),NQ]
theorem KT: ∀(k n:Nat),n<10^(k+1)→(Lib.decDigits n).length≤k+1
 |0,n,h=>by rw[Lib.decDigits,dif_pos (by omega)];simp
 |k+1,n,h=>by
  rw[Lib.decDigits]
  split
  ·simp
  ·rw[List.length_append,List.length_singleton]
   have:=KT k (n/10) (by rw[Nat.pow_succ]at h;omega)
   omega
theorem jaM{k n:Nat}(h:n<10^(k+1)):(BI n).length≤k+1:=by
 unfold BI;split
 ·simp
 ·exact KT k n h
def Ch(l:List UInt8):ByteArray:=⟨l.toArray⟩
theorem Ng(l m:List UInt8):Ch l++Ch m=Ch (l++m):=by
 apply ByteArray.ext
 simp[Ch,ByteArray.data_append]
theorem Ja(l:List UInt8):(Ch l).size=l.length:=by simp[Ch,ByteArray.size]
theorem I5{n:Nat}(hn:n<340282366920938463463374607431768211456):(Lib.decDigits n).length≤39:=KT 38 n (by omega)
def intW(neg:Bool)(m:Nat):List UInt8:=(if neg∧m≠0 then [45] else [])++Lib.decDigits m
end Go.Va
