/- a part of the proof -/
import Derived.Test.YtkfdniccmcolgaaGreatQaq
import Derived.Shelf.SlSortCmp.NoneTotal
import Derived.Shelf.Slices.In.SortNone
import Derived.Shelf.SlicesG.Delete
import Derived.Test.YtkfdniccmcolgaaGreatProg
set_option linter.all false
set_option maxHeartbeats 4000000
set_option maxRecDepth 10000
namespace Go.Va
open Int (natCast_add natCast_mul natCast_emod natCast_ediv natCast_pow)
open Go.Proofs
def AK(f:Fct):Bool:=decide (FW f 40=0)
theorem RI(f:Fct)(hf:f.Mild):CallsF Tryz.prog 69 [.agg f.ds] (.u (.c (.d (.bool (AK f))))):=by
 refine Ae (T:=tb) Ad mixed Tryz.func69 rfl (by decide) (Ac rfl) rfl ?_;unfold St.init
 have k:=jbs f hf 40;simp only[Fct.ds]at k ⊢;simp -implicitDefEqProofs[jJ,-natCast_add,-natCast_mul];refine Aa k ?_;simp -implicitDefEqProofs[jJ,-natCast_add,-natCast_mul,AK]
theorem IW(kind a b c d:Int)(neg:Bool)(abs den:List Nat):CallsF Tryz.prog 102 [.agg [.int .i64 kind,intsD [a,b,c,d],.bool neg,Ab abs,Ab den]] (.u (.c (.own 2 2 [.int .i64 (lo a b),.int .i64 (hi a b),.int .i64 (lo c d),.int .i64 (hi c d)]))):=
 Qn ⟨kind,[a,b,c,d],neg,abs,den⟩ (by simp)
theorem T9(kind a b c d e f g h:Int)(neg:Bool)(abs den:List Nat):CallsF Tryz.prog 102 [.agg [.int .i64 kind,intsD [a,b,c,d,e,f,g,h],.bool neg,Ab abs,Ab den]] (.u (.c (.own 2 4 [.int .i64 (lo a b),.int .i64 (hi a b),.int .i64 (lo c d),.int .i64 (hi c d),.int .i64 (lo e f),.int .i64 (hi e f),.int .i64 (lo g h),.int .i64 (hi g h)]))):=
 Qn ⟨kind,[a,b,c,d,e,f,g,h],neg,abs,den⟩ (by simp)
def Fct.res(f:Fct):R:= .u (.agg [.d (.int .i64 f.kind),.d (intsD f.args),.d (.bool f.neg),.d (Ab f.abs),.d (Ab f.den)])
theorem Ju(kind a b c d:Int)(neg:Bool)(abs den:List Nat):CallsF Tryz.prog 224 [.c (.int .i64 kind),.agg [.bool neg,Ab abs,Ab den],.c (.slice 2 [.int .i64 a,.int .i64 b,.int .i64 c,.int .i64 d])]
  (.u (.agg [.d (.int .i64 kind),.d (intsD [a,b,c,d]),.d (.bool neg),.d (Ab abs),.d (Ab den)])):=
 Qo kind neg abs den [(a,b),(c,d)] (by simp)
theorem RB(kind a b c d e f g h:Int)(neg:Bool)(abs den:List Nat):CallsF Tryz.prog 224 [.c (.int .i64 kind),.agg [.bool neg,Ab abs,Ab den],.c (.slice 4 [.int .i64 a,.int .i64 b,.int .i64 c,.int .i64 d,.int .i64 e,.int .i64 f,.int .i64 g,.int .i64 h])]
  (.u (.agg [.d (.int .i64 kind),.d (intsD [a,b,c,d,e,f,g,h]),.d (.bool neg),.d (Ab abs),.d (Ab den)])):=
 Qo kind neg abs den [(a,b),(c,d),(e,f),(g,h)] (by simp)
def B6(kind:Int)(p q:Int×Int):Fct:=if AC q p<0 then ⟨kind,[q.1,q.2,p.1,p.2],false,[],[]⟩ else ⟨kind,[p.1,p.2,q.1,q.2],false,[],[]⟩
theorem Og(kind a b c d:Int)(neg:Bool)(abs den:List Nat):CallsF Tryz.prog 130 [.agg [.int .i64 kind,intsD [a,b,c,d],.bool neg,Ab abs,Ab den]] (B6 kind (Ah a b) (Ah c d)).res:=by
 refine Ae (T:=tb) Ad mixed Tryz.func130 rfl (by decide) (Ac rfl) rfl ?_;unfold St.init
 have k1:=IW kind a b c d neg abs den;have k2:=HS (lo c d) (hi c d) (lo a b) (hi a b);have k3:=Ju kind (lo c d) (hi c d) (lo a b) (hi a b) false [] [];have k4:=Ju kind (lo a b) (hi a b) (lo c d) (hi c d) false [] [];unfold B6 Ah;simp only;generalize intsD [a,b,c,d]=l at*;generalize lo c d=x at*;generalize hi c d=y at*;generalize lo a b=z at*;generalize hi a b=t at*;simp -implicitDefEqProofs[jJ,-natCast_add,-natCast_mul];refine Aa k1 ?_;simp -implicitDefEqProofs[jJ,-natCast_add,-natCast_mul];refine Af (Aj [0,1,3,0,8,24,63,127]) [.any [] [] (Ao [[3],[6],[7],[3],[9],[10]]),.one,.one] (by rfl) ?_
 simp -implicitDefEqProofs[jJ,-natCast_add,-natCast_mul];refine Aa k2 ?_;by_cases h:AC (x,y) (z,t)<0
 ·simp -implicitDefEqProofs[jJ,-natCast_add,-natCast_mul,h];refine Af (Aj [0,0,0,4,12,0,32,96,253,509,1023,2047]) [.any [] [] [⟨0,[3],[],[],[]⟩,⟨0,[3],[5],[],[]⟩,⟨0,[3],[],[],[]⟩,⟨0,[16],[],[],[]⟩,⟨0,[17],[],[],[]⟩,⟨0,[3],[],[],[]⟩,⟨0,[19],[],[],[]⟩,⟨0,[20],[],[],[]⟩,⟨0,[14],[],[],[]⟩,⟨2,[18,22],[],[],[5]⟩],.one,.one] (by rfl) ?_
  simp -implicitDefEqProofs[jJ,-natCast_add,-natCast_mul];refine Aa k3 ?_;simp -implicitDefEqProofs[jJ,-natCast_add,-natCast_mul,Fct.res]
 ·simp -implicitDefEqProofs[jJ,-natCast_add,-natCast_mul,h];refine Aa k4 ?_;simp -implicitDefEqProofs[jJ,-natCast_add,-natCast_mul,Fct.res]
end Go.Va
namespace Go.Va
def Hc(a b:Fct):Int:=Az (toZ a.neg (val a.abs)*val b.den) (toZ b.neg (val b.abs)*val a.den)
def cmpK(a b:Fct):Int:=Bm [Az a.kind b.kind,AL a.args b.args]
def Aw(a b:Fct):Int:=if cmpK a b≠0∨a.kind≠9 then cmpK a b else Hc a b
def Fct.Num(f:Fct):Prop:=f.kind=9→val f.den≠0
theorem Dv(a b:Int):(a<b∧Az a b= -1)∨(b<a∧Az a b=1)∨(a=b∧Az a b=0):=by
 unfold Az;split
 ·left;exact⟨‹_›,rfl⟩
 ·split
  ·right;left;exact⟨‹_›,rfl⟩
  ·right;right;exact⟨by omega,rfl⟩
structure IsCmp {α:Type} (P:α→Prop) (c:α→α→Int):Prop where
 rng: ∀x y,P x→P y→ -1≤c x y∧c x y≤1
 anti: ∀x y,P x→P y→c y x= -c x y
 tr: ∀x y z,P x→P y→P z→c x y≤0→c y z≤0→c x z≤0∧(c x z=0→c x y=0∧c y z=0)
theorem isCmp_Z:IsCmp (fun _=>True) Az where
 rng x y _ _:=by rcases Dv x y with⟨_,h⟩|⟨_,h⟩|⟨_,h⟩<;>omega
 anti x y _ _:=by rcases Dv x y with⟨_,h⟩|⟨_,h⟩|⟨_,h⟩<;>rcases Dv y x with⟨_,h'⟩|⟨_,h'⟩|⟨_,h'⟩<;>omega
 tr x y z _ _ _:=by
  rcases Dv x y with⟨_,h⟩|⟨_,h⟩|⟨_,h⟩<;>rcases Dv y z with⟨_,h'⟩|⟨_,h'⟩|⟨_,h'⟩<;>rcases Dv x z with⟨_,h''⟩|⟨_,h''⟩|⟨_,h''⟩<;>omega
theorem IsCmp.lex{α:Type}{P:α→Prop}{c d:α→α→Int}(hc:IsCmp P c)
  (rng: ∀x y,P x→P y→c x y=0→ -1≤d x y∧d x y≤1) (anti: ∀x y,P x→P y→c x y=0→d y x= -d x y)
  (tr: ∀x y z,P x→P y→P z→c x y=0→c y z=0→d x y≤0→d y z≤0→d x z≤0∧(d x z=0→d x y=0∧d y z=0)):
  IsCmp P fun x y=>if c x y≠0 then c x y else d x y where
 rng x y hx hy:=by
  by_cases h:c x y=0
  ·simp only[h,ne_eq,not_true_eq_false,if_false];exact rng x y hx hy h
  ·simp only[h,ne_eq,not_false_eq_true,if_true];exact hc.rng x y hx hy
 anti x y hx hy:=by
  have h0:=hc.anti x y hx hy;by_cases h:c x y=0
  ·have h':c y x=0:=by omega
   simp only[h,h',ne_eq,not_true_eq_false,if_false];exact anti x y hx hy h
  ·have h': ¬c y x=0:=by omega
   simp only[h,h',ne_eq,not_false_eq_true,if_true];exact h0
 tr x y z hx hy hz:=by
  have t:=hc.tr x y z hx hy hz;have t2:=hc.tr z y x hz hy hx;have a1:=hc.anti x y hx hy;have a2:=hc.anti y z hy hz;have a3:=hc.anti x z hx hz;by_cases h1:c x y=0<;>by_cases h2:c y z=0<;>by_cases h3:c x z=0<;>simp only[h1,h2,h3,ne_eq,not_true_eq_false,not_false_eq_true,if_false,if_true]<;>intro k1 k2
  ·exact tr x y z hx hy hz h1 h2 k1 k2
  all_goals first
   |(have:=t (by omega) (by omega);exact⟨by omega,fun h=>by first|exact h.elim|omega⟩)
   |exact⟨by omega,fun h=>by first|exact h.elim|omega⟩
theorem isCmp_lexI:IsCmp (fun _=>True) AL where
 rng:=by
  intro x
  induction x with
  |nil=>intro y _ _;cases y<;>simp[AL]
  |cons a x ih=>
   intro y _ _;cases y with
   |nil=>simp[AL]
   |cons b y=>
    have h:=isCmp_Z.rng a b trivial trivial;have h2:=ih y trivial trivial;unfold AL;split<;>omega
 anti:=by
  intro x
  induction x with
  |nil=>intro y _ _;cases y<;>simp[AL]
  |cons a x ih=>
   intro y _ _;cases y with
   |nil=>simp[AL]
   |cons b y=>
    have h:=isCmp_Z.anti a b trivial trivial;have h2:=ih y trivial trivial;unfold AL;split<;>split<;>omega
 tr:=by
  intro x
  induction x with
  |nil=>intro y z _ _ _;cases y<;>cases z<;>simp[AL]
  |cons a x ih=>
   intro y z _ _ _;cases y with
   |nil=>cases z<;>simp[AL]
   |cons b y=>
    cases z with
    |nil=>simp[AL]
    |cons c z=>
     have h2:=ih y z trivial trivial trivial;have t:=isCmp_Z.tr a b c trivial trivial trivial;have t2:=isCmp_Z.tr c b a trivial trivial trivial;have a1:=isCmp_Z.anti a b trivial trivial;have a2:=isCmp_Z.anti b c trivial trivial;have a3:=isCmp_Z.anti a c trivial trivial;simp only[AL];by_cases h1:Az a b=0<;>by_cases h4:Az b c=0<;>by_cases h3:Az a c=0<;>simp only[h1,h4,h3,if_false,if_true]<;>intro k1 k2
     ·exact h2 k1 k2
     all_goals first
      |(have:=t (by omega) (by omega);exact⟨by omega,fun h=>by first|exact h.elim|omega⟩)
      |exact⟨by omega,fun h=>by first|exact h.elim|omega⟩
theorem Nb: ∀(x y:List Int),AL x y=0↔x=y
 |[],[]=>by simp[AL]
 |[],_::_=>by simp[AL]
 |_::_,[]=>by simp[AL]
 |a::x,b::y=>by
  have:=Nb x y
  have hz:=Fg a b;unfold AL;split
  ·rename_i h;rw[this];simp[hz.1 h]
  ·rename_i h
   constructor
   ·intro h2;exact absurd h2 h
   ·intro h2;simp at h2;exact absurd (hz.2 h2.1) h
theorem L8(a b:Fct):cmpK a b=if Az a.kind b.kind≠0 then Az a.kind b.kind else AL a.args b.args:=by
 unfold cmpK Bm Bm Bm;by_cases h:Az a.kind b.kind=0
 ·by_cases h2:AL a.args b.args=0<;>simp[h,h2]
 ·simp[h]
theorem isCmp_K:IsCmp (fun _:Fct=>True) cmpK:=by
 have hz:IsCmp (fun _:Fct=>True) fun a b=>Az a.kind b.kind:=⟨fun x y _ _=>isCmp_Z.rng _ _ trivial trivial,fun x y _ _=>isCmp_Z.anti _ _ trivial trivial,fun x y z _ _ _=>isCmp_Z.tr _ _ _ trivial trivial trivial⟩
 have h:=hz.lex (d:=fun a b=>AL a.args b.args) (fun x y _ _ _=>isCmp_lexI.rng _ _ trivial trivial) (fun x y _ _ _=>isCmp_lexI.anti _ _ trivial trivial) (fun x y z _ _ _ _ _=>isCmp_lexI.tr _ _ _ trivial trivial trivial)
 have e:cmpK=fun a b=>if Az a.kind b.kind≠0 then Az a.kind b.kind else AL a.args b.args:=by funext a b;exact L8 a b
 rw[e];exact h
theorem cmpK_zero{a b:Fct}:cmpK a b=0↔a.kind=b.kind∧a.args=b.args:=by
 rw[L8]
 have h1:=Fg a.kind b.kind;have h2:=Nb a.args b.args;by_cases h:Az a.kind b.kind=0
 ·rw[if_neg (by simp[h]),h2];simp[h1.1 h]
 ·rw[if_pos h]
  constructor
  ·intro h3;exact absurd h3 h
  ·intro h3;exact absurd (h1.2 h3.1) h
theorem NB(a b:Fct):Aw a b=if cmpK a b≠0 then cmpK a b else if a.kind=9 then Hc a b else 0:=by
 unfold Aw;by_cases h:cmpK a b=0<;>by_cases h2:a.kind=9<;>simp[h,h2]
theorem Yg{a b d:Int}(hd:0<d)(h:a*d≤b*d):a≤b:=Int.le_of_mul_le_mul_right h hd
theorem jg5{x1 x2 x3 d1 d2 d3:Int}(h1:0<d1)(h2:0<d2)(h3:0<d3)(k1:x1*d2≤x2*d1)(k2:x2*d3≤x3*d2):x1*d3≤x3*d1∧(x1*d3=x3*d1→x1*d2=x2*d1∧x2*d3=x3*d2):=by
 have e1:x1*d2*d3≤x2*d1*d3:=Int.mul_le_mul_of_nonneg_right k1 (by omega)
 have e2:x2*d3*d1≤x3*d2*d1:=Int.mul_le_mul_of_nonneg_right k2 (by omega)
 have r1:x2*d1*d3=x2*d3*d1:=by rw[Int.mul_assoc,Int.mul_comm d1,←Int.mul_assoc]
 have r2:x1*d2*d3=x1*d3*d2:=by rw[Int.mul_assoc,Int.mul_comm d2,←Int.mul_assoc]
 have r3:x3*d2*d1=x3*d1*d2:=by rw[Int.mul_assoc,Int.mul_comm d2,←Int.mul_assoc]
 refine⟨Yg h2 (by omega),fun h=> ?_⟩
 rw[←h]at r3
 refine⟨Int.eq_of_mul_eq_mul_right (a:=d3) (by omega) (by omega),Int.eq_of_mul_eq_mul_right (a:=d1) (by omega) (by omega)⟩
theorem isCmp_F:IsCmp Fct.Num Aw:=by
 have hk:IsCmp Fct.Num cmpK:=⟨fun x y _ _=>isCmp_K.rng _ _ trivial trivial,fun x y _ _=>isCmp_K.anti _ _ trivial trivial,fun x y z _ _ _=>isCmp_K.tr _ _ _ trivial trivial trivial⟩
 have h:=hk.lex (d:=fun a b=>if a.kind=9 then Hc a b else 0) (fun x y _ _ _=>by
   by_cases h:x.kind=9
   ·simp only[h,if_true];exact isCmp_Z.rng _ _ trivial trivial
   ·simp[h]) (fun x y hx hy h0=>by
   have e:=(cmpK_zero.1 h0).1;by_cases h:x.kind=9
   ·have h':y.kind=9:=by omega
    simp only[h,h',if_true];exact isCmp_Z.anti _ _ trivial trivial
   ·have h': ¬y.kind=9:=by omega
    simp[h,h']) (fun x y z hx hy hz h0 h1=>by
   have e:=(cmpK_zero.1 h0).1;have e':=(cmpK_zero.1 h1).1;by_cases h:x.kind=9
   ·have h':y.kind=9:=by omega
    have h'':z.kind=9:=by omega
    have px:=hx h;have py:=hy h';have pz:=hz h'';simp only[h,h',if_true,Hc];rcases Dv (toZ x.neg (val x.abs)*val y.den) (toZ y.neg (val y.abs)*val x.den)with⟨q1,q2⟩|⟨q1,q2⟩|⟨q1,q2⟩<;>
    rcases Dv (toZ y.neg (val y.abs)*val z.den) (toZ z.neg (val z.abs)*val y.den)with⟨r1,r2⟩|⟨r1,r2⟩|⟨r1,r2⟩<;>intro k1 k2<;>try omega
    all_goals
     have c:=jg5 (x1:=toZ x.neg (val x.abs)) (x2:=toZ y.neg (val y.abs)) (x3:=toZ z.neg (val z.abs)) (d1:=val x.den) (d2:=val y.den) (d3:=val z.den) (by omega) (by omega) (by omega) (by omega) (by omega)
     rcases Dv (toZ x.neg (val x.abs)*val z.den) (toZ z.neg (val z.abs)*val x.den)with⟨s1,s2⟩|⟨s1,s2⟩|⟨s1,s2⟩<;>omega
   ·have h': ¬y.kind=9:=by omega
    simp[h,h'])
 have e:Aw=fun a b=>if cmpK a b≠0 then cmpK a b else if a.kind=9 then Hc a b else 0:=by funext a b;exact NB a b
 rw[e];exact h
theorem IsCmp.self{α:Type}{P:α→Prop}{c:α→α→Int}(h:IsCmp P c){x:α}(hx:P x):c x x=0:=by
 have:=h.anti x x hx hx
 omega
end Go.Va
namespace Go.Proofs
open Go.Shelf
def Tryz.laysSF_ren:Go.Shelf.Ren:=⟨fun|6=>57|15=>113|14=>112|28=>198|29=>199|20=>190|21=>191|22=>192|23=>193|24=>194|25=>195|26=>196|27=>197|46=>248|47=>249|48=>250|49=>251|50=>252|57=>280|n=>n,fun|22=>61|24=>64|25=>106|3=>3|39=>161|0=>0|53=>226|55=>97|4=>4|46=>219|45=>218|50=>223|5=>5|9=>9|66=>256|70=>252|76=>282|77=>283|n=>n,fun|n=>n⟩
theorem Tryz.laysSF:Go.Proofs.SlLaysF0.n6 Tryz.prog Tryz.laysSF_ren:={
 mixed:=by kernel_rfl
 f6:=⟨Tryz.f57.name,by decide,Tryz.func57.trans (congrArg some (by kernel_rfl))⟩
 f14:=⟨Tryz.f112.name,by decide,Tryz.func112.trans (congrArg some (by kernel_rfl))⟩
 f15:=Tryz.func113.trans (congrArg some (by kernel_rfl))
 f20:=⟨Tryz.f190.name,by decide,Tryz.func190.trans (congrArg some (by kernel_rfl))⟩
 f21:=⟨Tryz.f191.name,by decide,Tryz.func191.trans (congrArg some (by kernel_rfl))⟩
 f22:=⟨Tryz.f192.name,by decide,Tryz.func192.trans (congrArg some (by kernel_rfl))⟩
 f23:=⟨Tryz.f193.name,by decide,Tryz.func193.trans (congrArg some (by kernel_rfl))⟩
 f24:=⟨Tryz.f194.name,by decide,Tryz.func194.trans (congrArg some (by kernel_rfl))⟩
 f25:=⟨Tryz.f195.name,by decide,Tryz.func195.trans (congrArg some (by kernel_rfl))⟩
 f26:=⟨Tryz.f196.name,by decide,Tryz.func196.trans (congrArg some (by kernel_rfl))⟩
 f27:=⟨Tryz.f197.name,by decide,Tryz.func197.trans (congrArg some (by kernel_rfl))⟩
 f28:=Tryz.func198.trans (congrArg some (by kernel_rfl))
 f29:=Tryz.func199.trans (congrArg some (by kernel_rfl))
 f46:=⟨Tryz.f248.name,by decide,Tryz.func248.trans (congrArg some (by kernel_rfl))⟩
 f47:=Tryz.func249.trans (congrArg some (by kernel_rfl))
 f48:=Tryz.func250.trans (congrArg some (by kernel_rfl))
 f49:=⟨Tryz.f251.name,by decide,Tryz.func251.trans (congrArg some (by kernel_rfl))⟩
 f50:=⟨Tryz.f252.name,by decide,Tryz.func252.trans (congrArg some (by kernel_rfl))⟩
 f57:=⟨Tryz.f280.name,by decide,Tryz.func280.trans (congrArg some (by kernel_rfl))⟩
 t0:=Tryz.underlying0
 a0:=Tryz.isAgg0
 z0:=Tryz.sizeOf0
 v0:=Tryz.zeroValue0
 t3:=Tryz.underlying3
 a3:=Tryz.isAgg3
 z3:=Tryz.sizeOf3
 v3:=Tryz.zeroValue3
 t4:=Tryz.underlying4
 a4:=Tryz.isAgg4
 z4:=Tryz.sizeOf4
 v4:=Tryz.zeroValue4
 t5:=Tryz.underlying5
 a5:=Tryz.isAgg5
 z5:=Tryz.sizeOf5
 v5:=Tryz.zeroValue5
 t9:=Tryz.underlying9
 a9:=Tryz.isAgg9
 z9:=Tryz.sizeOf9
 v9:=Tryz.zeroValue9
 t22:=Tryz.underlying61
 a22:=Tryz.isAgg61
 z22:=Tryz.sizeOf61
 v22:=Tryz.zeroValue61
 t25:=Tryz.underlying106
 a25:=Tryz.isAgg106
 z25:=Tryz.sizeOf106
 v25:=Tryz.zeroValue106
 t39:=Tryz.underlying161
 a39:=Tryz.isAgg161
 z39:=Tryz.sizeOf161
 v39:=Tryz.zeroValue161
 t45:=Tryz.underlying218
 a45:=Tryz.isAgg218
 z45:=Tryz.sizeOf218
 v45:=Tryz.zeroValue218
 t46:=Tryz.underlying219
 a46:=Tryz.isAgg219
 z46:=Tryz.sizeOf219
 v46:=Tryz.zeroValue219
 t50:=Tryz.underlying223
 a50:=Tryz.isAgg223
 z50:=Tryz.sizeOf223
 v50:=Tryz.zeroValue223
 t53:=Tryz.underlying226
 a53:=Tryz.isAgg226
 z53:=Tryz.sizeOf226
 v53:=Tryz.zeroValue226
 t55:=Tryz.underlying97
 a55:=Tryz.isAgg97
 z55:=Tryz.sizeOf97
 v55:=Tryz.zeroValue97
 t66:=Tryz.underlying256
 a66:=Tryz.isAgg256
 z66:=Tryz.sizeOf256
 v66:=Tryz.zeroValue256
 t70:=Tryz.underlying252
 a70:=Tryz.isAgg252
 z70:=Tryz.sizeOf252
 v70:=Tryz.zeroValue252
 t76:=Tryz.underlying282
 a76:=Tryz.isAgg282
 z76:=Tryz.sizeOf282
 v76:=Tryz.zeroValue282
 t77:=Tryz.underlying283
 a77:=Tryz.isAgg283
 z77:=Tryz.sizeOf283
 v77:=Tryz.zeroValue283 }
def Tryz.laysSG_ren:Go.Shelf.Ren:=⟨fun|6=>59|15=>113|14=>114|28=>198|29=>199|20=>200|21=>201|22=>202|23=>203|24=>204|25=>205|26=>206|27=>207|46=>253|47=>249|48=>250|49=>254|50=>255|57=>281|n=>n,fun|22=>25|24=>60|25=>71|3=>3|39=>161|0=>0|53=>226|55=>97|4=>4|46=>219|45=>218|50=>223|5=>5|9=>9|66=>256|70=>252|76=>282|77=>283|n=>n,fun|n=>n⟩
theorem Tryz.laysSG:Go.Proofs.SlLaysF0.n6 Tryz.prog Tryz.laysSG_ren:={
 mixed:=by kernel_rfl
 f6:=⟨Tryz.f59.name,by decide,Tryz.func59.trans (congrArg some (by kernel_rfl))⟩
 f14:=⟨Tryz.f114.name,by decide,Tryz.func114.trans (congrArg some (by kernel_rfl))⟩
 f15:=Tryz.func113.trans (congrArg some (by kernel_rfl))
 f20:=⟨Tryz.f200.name,by decide,Tryz.func200.trans (congrArg some (by kernel_rfl))⟩
 f21:=⟨Tryz.f201.name,by decide,Tryz.func201.trans (congrArg some (by kernel_rfl))⟩
 f22:=⟨Tryz.f202.name,by decide,Tryz.func202.trans (congrArg some (by kernel_rfl))⟩
 f23:=⟨Tryz.f203.name,by decide,Tryz.func203.trans (congrArg some (by kernel_rfl))⟩
 f24:=⟨Tryz.f204.name,by decide,Tryz.func204.trans (congrArg some (by kernel_rfl))⟩
 f25:=⟨Tryz.f205.name,by decide,Tryz.func205.trans (congrArg some (by kernel_rfl))⟩
 f26:=⟨Tryz.f206.name,by decide,Tryz.func206.trans (congrArg some (by kernel_rfl))⟩
 f27:=⟨Tryz.f207.name,by decide,Tryz.func207.trans (congrArg some (by kernel_rfl))⟩
 f28:=Tryz.func198.trans (congrArg some (by kernel_rfl))
 f29:=Tryz.func199.trans (congrArg some (by kernel_rfl))
 f46:=⟨Tryz.f253.name,by decide,Tryz.func253.trans (congrArg some (by kernel_rfl))⟩
 f47:=Tryz.func249.trans (congrArg some (by kernel_rfl))
 f48:=Tryz.func250.trans (congrArg some (by kernel_rfl))
 f49:=⟨Tryz.f254.name,by decide,Tryz.func254.trans (congrArg some (by kernel_rfl))⟩
 f50:=⟨Tryz.f255.name,by decide,Tryz.func255.trans (congrArg some (by kernel_rfl))⟩
 f57:=⟨Tryz.f281.name,by decide,Tryz.func281.trans (congrArg some (by kernel_rfl))⟩
 t0:=Tryz.underlying0
 a0:=Tryz.isAgg0
 z0:=Tryz.sizeOf0
 v0:=Tryz.zeroValue0
 t3:=Tryz.underlying3
 a3:=Tryz.isAgg3
 z3:=Tryz.sizeOf3
 v3:=Tryz.zeroValue3
 t4:=Tryz.underlying4
 a4:=Tryz.isAgg4
 z4:=Tryz.sizeOf4
 v4:=Tryz.zeroValue4
 t5:=Tryz.underlying5
 a5:=Tryz.isAgg5
 z5:=Tryz.sizeOf5
 v5:=Tryz.zeroValue5
 t9:=Tryz.underlying9
 a9:=Tryz.isAgg9
 z9:=Tryz.sizeOf9
 v9:=Tryz.zeroValue9
 t22:=Tryz.underlying25
 a22:=Tryz.isAgg25
 z22:=Tryz.sizeOf25
 v22:=Tryz.zeroValue25
 t25:=Tryz.underlying71
 a25:=Tryz.isAgg71
 z25:=Tryz.sizeOf71
 v25:=Tryz.zeroValue71
 t39:=Tryz.underlying161
 a39:=Tryz.isAgg161
 z39:=Tryz.sizeOf161
 v39:=Tryz.zeroValue161
 t45:=Tryz.underlying218
 a45:=Tryz.isAgg218
 z45:=Tryz.sizeOf218
 v45:=Tryz.zeroValue218
 t46:=Tryz.underlying219
 a46:=Tryz.isAgg219
 z46:=Tryz.sizeOf219
 v46:=Tryz.zeroValue219
 t50:=Tryz.underlying223
 a50:=Tryz.isAgg223
 z50:=Tryz.sizeOf223
 v50:=Tryz.zeroValue223
 t53:=Tryz.underlying226
 a53:=Tryz.isAgg226
 z53:=Tryz.sizeOf226
 v53:=Tryz.zeroValue226
 t55:=Tryz.underlying97
 a55:=Tryz.isAgg97
 z55:=Tryz.sizeOf97
 v55:=Tryz.zeroValue97
 t66:=Tryz.underlying256
 a66:=Tryz.isAgg256
 z66:=Tryz.sizeOf256
 v66:=Tryz.zeroValue256
 t70:=Tryz.underlying252
 a70:=Tryz.isAgg252
 z70:=Tryz.sizeOf252
 v70:=Tryz.zeroValue252
 t76:=Tryz.underlying282
 a76:=Tryz.isAgg282
 z76:=Tryz.sizeOf282
 v76:=Tryz.zeroValue282
 t77:=Tryz.underlying283
 a77:=Tryz.isAgg283
 z77:=Tryz.sizeOf283
 v77:=Tryz.zeroValue283 }
def Tryz.laysSI_ren:Go.Shelf.Ren:=⟨fun|189=>187|125=>113|257=>246|128=>198|129=>199|294=>271|295=>272|296=>273|297=>274|298=>275|299=>276|216=>277|300=>278|301=>279|328=>290|329=>249|330=>250|331=>291|332=>292|215=>134|343=>297|n=>n,fun|28=>31|3=>3|46=>161|0=>0|51=>226|53=>97|4=>4|183=>219|182=>218|131=>223|5=>5|9=>9|218=>256|222=>252|228=>282|229=>283|n=>n,fun|n=>n⟩
theorem Tryz.laysSI:Go.Proofs.Lays.n189 Tryz.prog Tryz.laysSI_ren:={
 mixed:=by kernel_rfl
 f125:=Tryz.func113.trans (congrArg some (by kernel_rfl))
 f128:=Tryz.func198.trans (congrArg some (by kernel_rfl))
 f129:=Tryz.func199.trans (congrArg some (by kernel_rfl))
 f189:=Tryz.func187.trans (congrArg some (by kernel_rfl))
 f215:=Tryz.func134.trans (congrArg some (by kernel_rfl))
 f216:=Tryz.func277.trans (congrArg some (by kernel_rfl))
 f257:=Tryz.func246.trans (congrArg some (by kernel_rfl))
 f294:=Tryz.func271.trans (congrArg some (by kernel_rfl))
 f295:=Tryz.func272.trans (congrArg some (by kernel_rfl))
 f296:=Tryz.func273.trans (congrArg some (by kernel_rfl))
 f297:=Tryz.func274.trans (congrArg some (by kernel_rfl))
 f298:=Tryz.func275.trans (congrArg some (by kernel_rfl))
 f299:=Tryz.func276.trans (congrArg some (by kernel_rfl))
 f300:=Tryz.func278.trans (congrArg some (by kernel_rfl))
 f301:=Tryz.func279.trans (congrArg some (by kernel_rfl))
 f328:=Tryz.func290.trans (congrArg some (by kernel_rfl))
 f329:=Tryz.func249.trans (congrArg some (by kernel_rfl))
 f330:=Tryz.func250.trans (congrArg some (by kernel_rfl))
 f331:=Tryz.func291.trans (congrArg some (by kernel_rfl))
 f332:=Tryz.func292.trans (congrArg some (by kernel_rfl))
 f343:=Tryz.func297.trans (congrArg some (by kernel_rfl))
 t0:=Tryz.underlying0
 a0:=Tryz.isAgg0
 z0:=Tryz.sizeOf0
 v0:=Tryz.zeroValue0
 t3:=Tryz.underlying3
 a3:=Tryz.isAgg3
 z3:=Tryz.sizeOf3
 v3:=Tryz.zeroValue3
 t4:=Tryz.underlying4
 a4:=Tryz.isAgg4
 z4:=Tryz.sizeOf4
 v4:=Tryz.zeroValue4
 t5:=Tryz.underlying5
 a5:=Tryz.isAgg5
 z5:=Tryz.sizeOf5
 v5:=Tryz.zeroValue5
 t9:=Tryz.underlying9
 a9:=Tryz.isAgg9
 z9:=Tryz.sizeOf9
 v9:=Tryz.zeroValue9
 t28:=Tryz.underlying31
 a28:=Tryz.isAgg31
 z28:=Tryz.sizeOf31
 v28:=Tryz.zeroValue31
 t46:=Tryz.underlying161
 a46:=Tryz.isAgg161
 z46:=Tryz.sizeOf161
 v46:=Tryz.zeroValue161
 t51:=Tryz.underlying226
 a51:=Tryz.isAgg226
 z51:=Tryz.sizeOf226
 v51:=Tryz.zeroValue226
 t53:=Tryz.underlying97
 a53:=Tryz.isAgg97
 z53:=Tryz.sizeOf97
 v53:=Tryz.zeroValue97
 t131:=Tryz.underlying223
 a131:=Tryz.isAgg223
 z131:=Tryz.sizeOf223
 v131:=Tryz.zeroValue223
 t182:=Tryz.underlying218
 a182:=Tryz.isAgg218
 z182:=Tryz.sizeOf218
 v182:=Tryz.zeroValue218
 t183:=Tryz.underlying219
 a183:=Tryz.isAgg219
 z183:=Tryz.sizeOf219
 v183:=Tryz.zeroValue219
 t218:=Tryz.underlying256
 a218:=Tryz.isAgg256
 z218:=Tryz.sizeOf256
 v218:=Tryz.zeroValue256
 t222:=Tryz.underlying252
 a222:=Tryz.isAgg252
 z222:=Tryz.sizeOf252
 v222:=Tryz.zeroValue252
 t228:=Tryz.underlying282
 a228:=Tryz.isAgg282
 z228:=Tryz.sizeOf282
 v228:=Tryz.zeroValue282
 t229:=Tryz.underlying283
 a229:=Tryz.isAgg283
 z229:=Tryz.sizeOf283
 v229:=Tryz.zeroValue283 }
def Tryz.laysDel_ren:Go.Shelf.Ren:=⟨fun|45=>243|n=>n,fun|22=>31|23=>3|3=>3|4=>4|0=>0|n=>n,fun|n=>n⟩
theorem Tryz.laysDel:Go.Proofs.SlLaysN.n45 Tryz.prog Tryz.laysDel_ren:={
 mixed:=by kernel_rfl
 f45:=⟨Tryz.f243.name,by decide,Tryz.func243.trans (congrArg some (by kernel_rfl))⟩
 t0:=Tryz.underlying0
 a0:=Tryz.isAgg0
 z0:=Tryz.sizeOf0
 v0:=Tryz.zeroValue0
 t3:=Tryz.underlying3
 a3:=Tryz.isAgg3
 z3:=Tryz.sizeOf3
 v3:=Tryz.zeroValue3
 t4:=Tryz.underlying4
 a4:=Tryz.isAgg4
 z4:=Tryz.sizeOf4
 v4:=Tryz.zeroValue4
 t22:=Tryz.underlying31
 a22:=Tryz.isAgg31
 z22:=Tryz.sizeOf31
 v22:=Tryz.zeroValue31
 t23:=Tryz.underlying3
 a23:=Tryz.isAgg3
 z23:=Tryz.sizeOf3
 v23:=Tryz.zeroValue3
 i23:=by kernel_rfl }
end Go.Proofs
