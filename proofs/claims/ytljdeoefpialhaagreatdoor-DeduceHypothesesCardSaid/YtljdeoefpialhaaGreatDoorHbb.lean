/- a part of the proof -/
import Derived.Test.YtljdeoefpialhaaGreatDoorHba
import Derived.Shelf.SlGeneric
import Derived.Shelf.Slices.In.SortNone
import Derived.Test.YtljdeoefpialhaaGreatDoorProg
import Derived.Lib.RowBridge
import Derived.Shelf.Sort.Plain
set_option linter.all false
set_option maxHeartbeats 4000000
set_option maxRecDepth 10000
namespace Go.Va
def G4(a b:Fct):Int:=cmpZ (toZ a.neg (val a.abs)*val b.den) (toZ b.neg (val b.abs)*val a.den)
def cmpK(a b:Fct):Int:=BV [cmpZ a.kind b.kind,BF a.args b.args]
def Gs(a b:Fct):Int:=if cmpK a b≠0∨a.kind≠9 then cmpK a b else G4 a b
def Fct.Num(f:Fct):Prop:=f.kind=9→val f.den≠0
theorem Dc(a b:Int):(a<b∧cmpZ a b= -1)∨(b<a∧cmpZ a b=1)∨(a=b∧cmpZ a b=0):=by
 unfold cmpZ;split
 ·left;exact⟨‹_›,rfl⟩
 ·split
  ·right;left;exact⟨‹_›,rfl⟩
  ·right;right;exact⟨by omega,rfl⟩
structure IsCmp {α:Type} (P:α→Prop) (c:α→α→Int):Prop where
 rng: ∀x y,P x→P y→ -1≤c x y∧c x y≤1
 anti: ∀x y,P x→P y→c y x= -c x y
 tr: ∀x y z,P x→P y→P z→c x y≤0→c y z≤0→c x z≤0∧(c x z=0→c x y=0∧c y z=0)
theorem isCmp_Z:IsCmp (fun _=>True) cmpZ where
 rng x y _ _:=by rcases Dc x y with⟨_,h⟩|⟨_,h⟩|⟨_,h⟩<;>omega
 anti x y _ _:=by rcases Dc x y with⟨_,h⟩|⟨_,h⟩|⟨_,h⟩<;>rcases Dc y x with⟨_,h'⟩|⟨_,h'⟩|⟨_,h'⟩<;>omega
 tr x y z _ _ _:=by
  rcases Dc x y with⟨_,h⟩|⟨_,h⟩|⟨_,h⟩<;>rcases Dc y z with⟨_,h'⟩|⟨_,h'⟩|⟨_,h'⟩<;>rcases Dc x z with⟨_,h''⟩|⟨_,h''⟩|⟨_,h''⟩<;>omega
theorem IsCmp.lex{α:Type}{P:α→Prop}{c d:α→α→Int}(hc:IsCmp P c)
  (rng: ∀x y,P x→P y→c x y=0→ -1≤d x y∧d x y≤1) (anti: ∀x y,P x→P y→c x y=0→d y x= -d x y)
  (tr: ∀x y z,P x→P y→P z→c x y=0→c y z=0→d x y≤0→d y z≤0→d x z≤0∧(d x z=0→d x y=0∧d y z=0)):
  IsCmp P fun x y=>if c x y≠0 then c x y else d x y where
 rng x y hx hy:=by
  by_cases h:c x y=0
  ·simp only[h,ne_eq,not_true_eq_false,if_false];exact rng x y hx hy h
  ·simp only[h,ne_eq,not_false_eq_true,if_true];exact hc.rng x y hx hy
 anti x y hx hy:=by
  have h0:=hc.anti x y hx hy;by_cases h:c x y=0
  ·have h':c y x=0:=by omega
   simp only[h,h',ne_eq,not_true_eq_false,if_false];exact anti x y hx hy h
  ·have h': ¬c y x=0:=by omega
   simp only[h,h',ne_eq,not_false_eq_true,if_true];exact h0
 tr x y z hx hy hz:=by
  have t:=hc.tr x y z hx hy hz;have t2:=hc.tr z y x hz hy hx;have a1:=hc.anti x y hx hy;have a2:=hc.anti y z hy hz;have a3:=hc.anti x z hx hz;by_cases h1:c x y=0<;>by_cases h2:c y z=0<;>by_cases h3:c x z=0<;>simp only[h1,h2,h3,ne_eq,not_true_eq_false,not_false_eq_true,if_false,if_true]<;>intro k1 k2
  ·exact tr x y z hx hy hz h1 h2 k1 k2
  all_goals first
   |(have:=t (by omega) (by omega);exact⟨by omega,fun h=>by first|exact h.elim|omega⟩)
   |exact⟨by omega,fun h=>by first|exact h.elim|omega⟩
theorem isCmp_lexI:IsCmp (fun _=>True) BF where
 rng:=by
  intro x
  induction x with
  |nil=>intro y _ _;cases y<;>simp[BF]
  |cons a x ih=>
   intro y _ _;cases y with
   |nil=>simp[BF]
   |cons b y=>
    have h:=isCmp_Z.rng a b trivial trivial;have h2:=ih y trivial trivial;unfold BF;split<;>omega
 anti:=by
  intro x
  induction x with
  |nil=>intro y _ _;cases y<;>simp[BF]
  |cons a x ih=>
   intro y _ _;cases y with
   |nil=>simp[BF]
   |cons b y=>
    have h:=isCmp_Z.anti a b trivial trivial;have h2:=ih y trivial trivial;unfold BF;split<;>split<;>omega
 tr:=by
  intro x
  induction x with
  |nil=>intro y z _ _ _;cases y<;>cases z<;>simp[BF]
  |cons a x ih=>
   intro y z _ _ _;cases y with
   |nil=>cases z<;>simp[BF]
   |cons b y=>
    cases z with
    |nil=>simp[BF]
    |cons c z=>
     have h2:=ih y z trivial trivial trivial;have t:=isCmp_Z.tr a b c trivial trivial trivial;have t2:=isCmp_Z.tr c b a trivial trivial trivial;have a1:=isCmp_Z.anti a b trivial trivial;have a2:=isCmp_Z.anti b c trivial trivial;have a3:=isCmp_Z.anti a c trivial trivial;simp only[BF];by_cases h1:cmpZ a b=0<;>by_cases h4:cmpZ b c=0<;>by_cases h3:cmpZ a c=0<;>simp only[h1,h4,h3,if_false,if_true]<;>intro k1 k2
     ·exact h2 k1 k2
     all_goals first
      |(have:=t (by omega) (by omega);exact⟨by omega,fun h=>by first|exact h.elim|omega⟩)
      |exact⟨by omega,fun h=>by first|exact h.elim|omega⟩
theorem LC: ∀(x y:List Int),BF x y=0↔x=y
 |[],[]=>by simp[BF]
 |[],_::_=>by simp[BF]
 |_::_,[]=>by simp[BF]
 |a::x,b::y=>by
  have:=LC x y
  have hz:=DP a b;unfold BF;split
  ·rename_i h;rw[this];simp[hz.1 h]
  ·rename_i h
   constructor
   ·intro h2;exact absurd h2 h
   ·intro h2;simp at h2;exact absurd (hz.2 h2.1) h
theorem Nf(a b:Fct):cmpK a b=if cmpZ a.kind b.kind≠0 then cmpZ a.kind b.kind else BF a.args b.args:=by
 unfold cmpK BV BV BV;by_cases h:cmpZ a.kind b.kind=0
 ·by_cases h2:BF a.args b.args=0<;>simp[h,h2]
 ·simp[h]
theorem isCmp_K:IsCmp (fun _:Fct=>True) cmpK:=by
 have hz:IsCmp (fun _:Fct=>True) fun a b=>cmpZ a.kind b.kind:=⟨fun x y _ _=>isCmp_Z.rng _ _ trivial trivial,fun x y _ _=>isCmp_Z.anti _ _ trivial trivial,fun x y z _ _ _=>isCmp_Z.tr _ _ _ trivial trivial trivial⟩
 have h:=hz.lex (d:=fun a b=>BF a.args b.args) (fun x y _ _ _=>isCmp_lexI.rng _ _ trivial trivial) (fun x y _ _ _=>isCmp_lexI.anti _ _ trivial trivial) (fun x y z _ _ _ _ _=>isCmp_lexI.tr _ _ _ trivial trivial trivial)
 have e:cmpK=fun a b=>if cmpZ a.kind b.kind≠0 then cmpZ a.kind b.kind else BF a.args b.args:=by funext a b;exact Nf a b
 rw[e];exact h
theorem cmpK_zero{a b:Fct}:cmpK a b=0↔a.kind=b.kind∧a.args=b.args:=by
 rw[Nf]
 have h1:=DP a.kind b.kind;have h2:=LC a.args b.args;by_cases h:cmpZ a.kind b.kind=0
 ·rw[if_neg (by simp[h]),h2];simp[h1.1 h]
 ·rw[if_pos h]
  constructor
  ·intro h3;exact absurd h3 h
  ·intro h3;exact absurd (h1.2 h3.1) h
theorem Nr(a b:Fct):Gs a b=if cmpK a b≠0 then cmpK a b else if a.kind=9 then G4 a b else 0:=by
 unfold Gs;by_cases h:cmpK a b=0<;>by_cases h2:a.kind=9<;>simp[h,h2]
theorem jhT{a b d:Int}(hd:0<d)(h:a*d≤b*d):a≤b:=Int.le_of_mul_le_mul_right h hd
theorem jaA{x1 x2 x3 d1 d2 d3:Int}(h1:0<d1)(h2:0<d2)(h3:0<d3)(k1:x1*d2≤x2*d1)(k2:x2*d3≤x3*d2):x1*d3≤x3*d1∧(x1*d3=x3*d1→x1*d2=x2*d1∧x2*d3=x3*d2):=by
 have e1:x1*d2*d3≤x2*d1*d3:=Int.mul_le_mul_of_nonneg_right k1 (by omega)
 have e2:x2*d3*d1≤x3*d2*d1:=Int.mul_le_mul_of_nonneg_right k2 (by omega)
 have r1:x2*d1*d3=x2*d3*d1:=by rw[Int.mul_assoc,Int.mul_comm d1,←Int.mul_assoc]
 have r2:x1*d2*d3=x1*d3*d2:=by rw[Int.mul_assoc,Int.mul_comm d2,←Int.mul_assoc]
 have r3:x3*d2*d1=x3*d1*d2:=by rw[Int.mul_assoc,Int.mul_comm d2,←Int.mul_assoc]
 refine⟨jhT h2 (by omega),fun h=> ?_⟩
 rw[←h]at r3
 refine⟨Int.eq_of_mul_eq_mul_right (a:=d3) (by omega) (by omega),Int.eq_of_mul_eq_mul_right (a:=d1) (by omega) (by omega)⟩
theorem isCmp_F:IsCmp Fct.Num Gs:=by
 have hk:IsCmp Fct.Num cmpK:=⟨fun x y _ _=>isCmp_K.rng _ _ trivial trivial,fun x y _ _=>isCmp_K.anti _ _ trivial trivial,fun x y z _ _ _=>isCmp_K.tr _ _ _ trivial trivial trivial⟩
 have h:=hk.lex (d:=fun a b=>if a.kind=9 then G4 a b else 0) (fun x y _ _ _=>by
   by_cases h:x.kind=9
   ·simp only[h,if_true];exact isCmp_Z.rng _ _ trivial trivial
   ·simp[h]) (fun x y hx hy h0=>by
   have e:=(cmpK_zero.1 h0).1;by_cases h:x.kind=9
   ·have h':y.kind=9:=by omega
    simp only[h,h',if_true];exact isCmp_Z.anti _ _ trivial trivial
   ·have h': ¬y.kind=9:=by omega
    simp[h,h']) (fun x y z hx hy hz h0 h1=>by
   have e:=(cmpK_zero.1 h0).1;have e':=(cmpK_zero.1 h1).1;by_cases h:x.kind=9
   ·have h':y.kind=9:=by omega
    have h'':z.kind=9:=by omega
    have px:=hx h;have py:=hy h';have pz:=hz h'';simp only[h,h',if_true,G4];rcases Dc (toZ x.neg (val x.abs)*val y.den) (toZ y.neg (val y.abs)*val x.den)with⟨q1,q2⟩|⟨q1,q2⟩|⟨q1,q2⟩<;>
    rcases Dc (toZ y.neg (val y.abs)*val z.den) (toZ z.neg (val z.abs)*val y.den)with⟨r1,r2⟩|⟨r1,r2⟩|⟨r1,r2⟩<;>intro k1 k2<;>try omega
    all_goals
     have c:=jaA (x1:=toZ x.neg (val x.abs)) (x2:=toZ y.neg (val y.abs)) (x3:=toZ z.neg (val z.abs)) (d1:=val x.den) (d2:=val y.den) (d3:=val z.den) (by omega) (by omega) (by omega) (by omega) (by omega)
     rcases Dc (toZ x.neg (val x.abs)*val z.den) (toZ z.neg (val z.abs)*val x.den)with⟨s1,s2⟩|⟨s1,s2⟩|⟨s1,s2⟩<;>omega
   ·have h': ¬y.kind=9:=by omega
    simp[h,h'])
 have e:Gs=fun a b=>if cmpK a b≠0 then cmpK a b else if a.kind=9 then G4 a b else 0:=by funext a b;exact Nr a b
 rw[e];exact h
theorem IsCmp.self{α:Type}{P:α→Prop}{c:α→α→Int}(h:IsCmp P c){x:α}(hx:P x):c x x=0:=by
 have:=h.anti x x hx hx
 omega
end Go.Va
namespace Go.Proofs
open Go.Shelf
def Tryz.laysSI_ren:Go.Shelf.Ren:=⟨fun|189=>193|125=>140|257=>245|128=>222|129=>223|294=>282|295=>283|296=>284|297=>285|298=>286|299=>287|216=>288|300=>289|301=>290|328=>332|329=>267|330=>268|331=>333|332=>334|215=>142|343=>346|n=>n,fun|28=>40|3=>3|46=>162|0=>0|51=>227|53=>142|4=>4|183=>221|182=>220|131=>73|5=>5|9=>9|218=>267|222=>271|228=>303|229=>304|n=>n,fun|n=>n⟩
theorem Tryz.laysSI:Go.Proofs.Lays.n189 Tryz.prog Tryz.laysSI_ren:={
 mixed:=by kernel_rfl
 f125:=Tryz.func140.trans (congrArg some (by kernel_rfl))
 f128:=Tryz.func222.trans (congrArg some (by kernel_rfl))
 f129:=Tryz.func223.trans (congrArg some (by kernel_rfl))
 f189:=Tryz.func193.trans (congrArg some (by kernel_rfl))
 f215:=Tryz.func142.trans (congrArg some (by kernel_rfl))
 f216:=Tryz.func288.trans (congrArg some (by kernel_rfl))
 f257:=Tryz.func245.trans (congrArg some (by kernel_rfl))
 f294:=Tryz.func282.trans (congrArg some (by kernel_rfl))
 f295:=Tryz.func283.trans (congrArg some (by kernel_rfl))
 f296:=Tryz.func284.trans (congrArg some (by kernel_rfl))
 f297:=Tryz.func285.trans (congrArg some (by kernel_rfl))
 f298:=Tryz.func286.trans (congrArg some (by kernel_rfl))
 f299:=Tryz.func287.trans (congrArg some (by kernel_rfl))
 f300:=Tryz.func289.trans (congrArg some (by kernel_rfl))
 f301:=Tryz.func290.trans (congrArg some (by kernel_rfl))
 f328:=Tryz.func332.trans (congrArg some (by kernel_rfl))
 f329:=Tryz.func267.trans (congrArg some (by kernel_rfl))
 f330:=Tryz.func268.trans (congrArg some (by kernel_rfl))
 f331:=Tryz.func333.trans (congrArg some (by kernel_rfl))
 f332:=Tryz.func334.trans (congrArg some (by kernel_rfl))
 f343:=Tryz.func346.trans (congrArg some (by kernel_rfl))
 t0:=Tryz.underlying0
 a0:=Tryz.isAgg0
 z0:=Tryz.sizeOf0
 v0:=Tryz.zeroValue0
 t3:=Tryz.underlying3
 a3:=Tryz.isAgg3
 z3:=Tryz.sizeOf3
 v3:=Tryz.zeroValue3
 t4:=Tryz.underlying4
 a4:=Tryz.isAgg4
 z4:=Tryz.sizeOf4
 v4:=Tryz.zeroValue4
 t5:=Tryz.underlying5
 a5:=Tryz.isAgg5
 z5:=Tryz.sizeOf5
 v5:=Tryz.zeroValue5
 t9:=Tryz.underlying9
 a9:=Tryz.isAgg9
 z9:=Tryz.sizeOf9
 v9:=Tryz.zeroValue9
 t28:=Tryz.underlying40
 a28:=Tryz.isAgg40
 z28:=Tryz.sizeOf40
 v28:=Tryz.zeroValue40
 t46:=Tryz.underlying162
 a46:=Tryz.isAgg162
 z46:=Tryz.sizeOf162
 v46:=Tryz.zeroValue162
 t51:=Tryz.underlying227
 a51:=Tryz.isAgg227
 z51:=Tryz.sizeOf227
 v51:=Tryz.zeroValue227
 t53:=Tryz.underlying142
 a53:=Tryz.isAgg142
 z53:=Tryz.sizeOf142
 v53:=Tryz.zeroValue142
 t131:=Tryz.underlying73
 a131:=Tryz.isAgg73
 z131:=Tryz.sizeOf73
 v131:=Tryz.zeroValue73
 t182:=Tryz.underlying220
 a182:=Tryz.isAgg220
 z182:=Tryz.sizeOf220
 v182:=Tryz.zeroValue220
 t183:=Tryz.underlying221
 a183:=Tryz.isAgg221
 z183:=Tryz.sizeOf221
 v183:=Tryz.zeroValue221
 t218:=Tryz.underlying267
 a218:=Tryz.isAgg267
 z218:=Tryz.sizeOf267
 v218:=Tryz.zeroValue267
 t222:=Tryz.underlying271
 a222:=Tryz.isAgg271
 z222:=Tryz.sizeOf271
 v222:=Tryz.zeroValue271
 t228:=Tryz.underlying303
 a228:=Tryz.isAgg303
 z228:=Tryz.sizeOf303
 v228:=Tryz.zeroValue303
 t229:=Tryz.underlying304
 a229:=Tryz.isAgg304
 z229:=Tryz.sizeOf304
 v229:=Tryz.zeroValue304 }
end Go.Proofs
namespace Go.Va
open Go.Proofs Go.Shelf Go.RowKit Go.Lib Go.Sort
theorem Ext.drewN(w:World)(q:Nat):Ext w (w.drewN q):=⟨⟨rfl,rfl,rfl,AO _,fun _ _=>rfl⟩,Nat.le_add_right _ _⟩
theorem Ext.grow(w:World)(os:Array Obj):Ext w (Go.Sort.grow w os):=
 ⟨⟨rfl,rfl,rfl,by simp[Go.Sort.grow],fun k hk=>by simp[Go.Sort.grow,Array.getElem?_append,hk]⟩,AO _⟩
theorem jaI[Gv]{ρ:AE}{w:World}{Z:Addr→Prop}{h:List (Nat×Blk)}(hZ: ∀ad,Z ad→ad.block<w.heap.size)(hh:Heap ρ w Z h)(hcz: ∀ad,Cells ρ ad→ ¬Z ad)(hmp: ∀i o,ρ i=some o→ ¬o.mp)
  {i:Nat} {o:Own} (hi:ρ i=some o) (hn:o.gone=false) {sz:Nat} {cs cs':List D} {app:Bool} (hb:RepB ρ w Z o (.row sz cs app)) {vs:List Value} (hl:vs.length=cs.length)
  (hr:RepL (RepD w (Ar ρ Z)) cs' vs) (q:Nat) (os:Array Obj):
  Fr (Cells ρ) w (Go.Sort.grow ((w.drewN q).setCells o.g o.o vs) os)∧Heap ρ (Go.Sort.grow ((w.drewN q).setCells o.g o.o vs) os) Z ((i,.row sz cs' app)::rm i h):=by
 have hrel:Rel (Cells ρ) Z w ρ ⟨[],h⟩ { tmps:= #[],defers:=[] } w:=
  {fr:=⟨rfl,AO _,rfl,rfl,AO _,fun a v _ h=>h,fun _ _ _=>rfl,fun _ _ _=>rfl⟩
   heap:=hh
   mine:=fun j o' ad hj ho=> .inl ⟨j,o',hj,ho⟩
   out:=hZ
   mz:=hcz
   tmps:=fun t v hv=>by cases hv
   defers:=rfl
   mps:=fun j o' hj hm=>absurd hm (hmp j o' hj) }
 have h1:=hrel.ext (Ext.drewN w q);obtain⟨hs,happ,hlen,hnil,hc⟩:=hb;have hfit:0+vs.length≤o.room*o.sz:=by rw[hs,Nat.zero_add,hl];exact hlen
 have h2:=h1.write hi hn (off:=0) (vs:=vs) (by simpa using hfit) (b:= .row sz cs' app) (fun hk=>by
  refine⟨hs,happ,by rw[hr.1,hl];exact hlen,hnil,fun j x hx=> ?_⟩
  have hj:j<vs.length:=by rw[←hr.1];exact(jzg.1 hx).1
  have hin:=World.cell?_setCells_in o.g vs o.o (w.drewN q) (fun p hp=>by
   obtain⟨v,hv,_⟩:=hc p (cs[p]'(by omega)) (AD (by omega))
   show(w.cell? _).isSome=true
   rw[hv];rfl) j hj
  refine⟨vs[j],by simpa [Own.at]using hin,?_⟩
  exact RepD.keep (by simpa using hk) (RepD.keep (Keep.ext (Ext.drewN w q) _) (hr.2 j x _ hx (AD hj))))
 have h3:=h2.ext (Ext.grow _ os);exact⟨by simpa using h3.fr,by simpa [St.blk]using h3.heap⟩
theorem jbt{ρ:AE}{w:World}{Z:Addr→Prop}{i n:Nat}{v:Value}(h:RepC ρ w Z (.sl i 0 n) v)(hn:0<n): ∃o c,ρ i=some o∧o.nil=false∧n≤o.room∧v= .slice (some ⟨o.g,o.o,none⟩) n c:=by
 obtain⟨o,h1,h2,h3⟩:=h
 rcases h3 with⟨_,_,_,h4⟩|⟨h4,a,c,rfl,h5,h6,h7,h8⟩
 ·omega
 ·rcases h7 with h7|h7
  ·omega
  ·refine⟨o,c,h1,h4,by omega,?_⟩
   rw[h7]
   simp[Own.at]
def DX(l:List Int):List Int:=l.mergeSort fun x y=>decide (x≤y)
theorem Ky(l:List Int):(DX l).length=l.length:=(List.mergeSort_perm _ _).length_eq
theorem jgA{l m:List Int}(hp:m.Perm l)(hs:m.Pairwise (· ≤ ·)):m=DX l:=by
 have h:=List.pairwise_mergeSort (le:=fun x y:Int=>decide (x≤y)) (fun a b c h1 h2=>by simp at*;omega) (fun a b=>by simp;omega) l
 refine List.Perm.eq_of_pairwise (le:=fun a b:Int=>a≤b) (fun a b _ _ h1 h2=>by omega) hs ?_ (hp.trans (List.mergeSort_perm _ _).symm)
 exact h.imp fun h=>by simpa using h
theorem jdk{w:World}{Z:Addr→Prop}(l:List Int):RepL (RepD w Z) (l.map i64) (l.map (Value.int .i64)):=by
 refine⟨by simp,fun j x v hx hv=> ?_⟩
 simp only[Bf,jze]at hx hv;obtain⟨a,ha,rfl⟩:=hx;obtain⟨b,hb,rfl⟩:=hv;rw[ha]at hb;cases hb;exact .int _ _
theorem Yb(i:Nat)(l:List Int)(app:Bool)(h0:l≠[])(hl:l.length≤1099511627776):
  Fw Tryz.prog 193 [.c (.sl i 0 l.length)] [(i,.row 1 (l.map i64) app)] [(i,.row 1 ((DX l).map i64) app)] (.tup []):=by
 have hpos:0<l.length:=List.length_pos_iff.2 h0;refine⟨⟨_,Tryz.func193,rfl,by decide⟩,rfl,fun w Z ρ vals hZ hh hcz hρ hv=> ?_⟩
 obtain⟨v,rfl⟩: ∃v,vals=[v]:=by
  have:=hv.1
  match vals,this with
  |[v],_=>exact⟨v,rfl⟩
 obtain⟨o,c,ho,hnil,hroom,rfl⟩:=jbt (w:=w) (Z:=Z) (hv.2 0 _ _ rfl rfl) hpos
 obtain⟨o',ho',hb⟩:=hh.rep i (.row 1 (l.map i64) app) (by simp[lk])
 rw[ho]at ho'
 cases ho'
 have hb':=hb;obtain⟨hsz,happ,hlen,⟨hn1,hn2⟩,hc⟩:=hb';have hgone:o.gone=false:=by rw[hn2];exact hnil
 have hval: ∀j (hj:j<l.length),w.cell? ⟨o.g,o.o+j,none⟩=some (.int .i64 l[j]):=fun j hj=>by
  obtain⟨v,h1,h2⟩:=hc j (i64 l[j]) (by simp[hj])
  cases h2;exact h1
 have hH:Holds (Value.int .i64) w o.g o.o l.toArray:=fun j hj=>by
  have hj':j<l.length:=by simpa using hj
  refine⟨?_,(hh.owns.cells i o ho hgone j (by rw[hsz];omega)).2⟩
  rw[hval j hj']
  simp[hj']
 have hblk:o.g<w.heap.size:=World.block_lt_of_cell? w _ (hval 0 hpos);have hcon:=Any.slices_Sort_int Tryz.laysSI o.g o.o c l w hH hblk (by omega)
 refine hcon.mono fun e w' ⟨he,n,os,hw⟩=> ?_
 rw[putRow_eq_setCells (Value.int .i64) w o.g o.o l.toArray _ n hH (by simp[List.length_mergeSort])]at hw
 have hmp: ∀j o',ρ j=some o'→ ¬o'.mp:=fun j o' hj hm=>by
  have h1:=hρ j o' hj;by_cases e:j=i
  ·subst e;rw[ho]at hj;cases hj;rw[hm.2,hm.1]at hn2;cases hn2
  ·rw[BD e]at h1
   cases h1
 have ht:=jaI hZ hh hcz hmp ho hgone hb (vs:=(DX l).map (Value.int .i64)) (cs':=(DX l).map i64) (by simp[Ky]) (jdk _) n os
 subst hw;have ht2:=ht.2;simp only[rm,if_true]at ht2;refine⟨_,he,ht.1,ht2,[],rfl,by simp[RepL],fun j x v hx=>by simp at hx⟩
structure Fct.Rt (f:Fct):Prop where
 ok:C3 f=true
 mild:f.Mild
theorem Rj{a:List Nat}(ha:Ok a)(h:lastOk a=true):a=limbs (val a):=by
 rw[←Gc a ha]
 rcases Nat.eq_zero_or_pos a.length with h0|h0
 ·have:a=[]:=jzv.1 h0
  subst this;rfl
 ·obtain⟨n,hn⟩: ∃n,a.length=n+1:=⟨a.length - 1,by omega⟩
  unfold lastOk at h;rw[List.getLast?_eq_getElem?,hn]at h;simp only[Nat.add_sub_cancel,decide_eq_true_eq]at h;have:Bw a a.length=a.length:=by
   rw[hn]
   unfold Bw;rw[if_neg];rw[AD (by omega)]at h
   rw[AL,AD (by omega)]
   simpa using h
  rw[this,BM]
theorem Cz{neg:Bool}{a b:List Nat}(h:ratOk neg a b=true)(ha:Ok a)(hb:Ok b):
  a=limbs (val a)∧b=limbs (val b)∧val b≠0∧Nat.gcd (val a) (val b)=1∧(neg=true→val a≠0):=by
 unfold ratOk at h;simp only[AR,Bool.not_eq_true',decide_eq_true_eq,Bool.and_eq_false_iff,decide_eq_false_iff_not]at h;obtain⟨⟨⟨⟨h1,h2⟩,h3⟩,h4⟩,h5⟩:=h;have ea:=Rj ha h1;have eb:=Rj hb h4;refine⟨ea,eb,fun h0=>h3 ?_,h5,fun hn h0=> ?_⟩
 ·rw[eb,h0];rfl
 ·rcases h2 with h2|h2
  ·rw[hn]at h2;cases h2
  ·exact h2 (by rw[ea,h0];rfl)
theorem jdI{m d n e:Nat}(h1:Nat.gcd m d=1)(h2:Nat.gcd n e=1)(d0:d≠0)(e0:e≠0)(h:m*e=n*d):m=n∧d=e:=by
 have a1:m∣n:=Nat.Coprime.dvd_of_dvd_mul_right (k:=m) (n:=d) h1 ⟨e,h.symm⟩;have a2:n∣m:=Nat.Coprime.dvd_of_dvd_mul_right (k:=n) (n:=e) h2 ⟨d,h⟩;have a3:d∣e:=Nat.Coprime.dvd_of_dvd_mul_left (k:=d) (m:=m) (by rw[Nat.Coprime,Nat.gcd_comm];exact h1) ⟨n,by rw[h,Nat.mul_comm]⟩
 have a4:e∣d:=Nat.Coprime.dvd_of_dvd_mul_left (k:=e) (m:=n) (by rw[Nat.Coprime,Nat.gcd_comm];exact h2) ⟨m,by rw[←h,Nat.mul_comm]⟩
 exact⟨Nat.dvd_antisymm a1 a2,Nat.dvd_antisymm a3 a4⟩
theorem jbo{na nb:Bool}{m d n e:Nat}(h:toZ na m*(e:Int)=toZ nb n*(d:Int))(d0:d≠0)(e0:e≠0):m*e=n*d∧(m=0∨na=nb):=by
 have p:0≤(m:Int)*e:=by exact_mod_cast Nat.zero_le _
 have q:0≤(n:Int)*d:=by exact_mod_cast Nat.zero_le _
 have z:(m:Int)*e=0→m=0:=fun h=>by
  have:m*e=0:=by exact_mod_cast h
  rcases Nat.mul_eq_zero.1 this with h|h
  ·exact h
  ·exact absurd h e0
 unfold toZ at h;cases na<;>cases nb<;>simp only[if_true,if_false,Int.neg_mul,Bool.false_eq_true]at h
 ·exact⟨by exact_mod_cast h,.inr rfl⟩
 ·have h1:(m:Int)*e=n*d:=by omega
  exact⟨by exact_mod_cast h1,.inl (z (by omega))⟩
 ·have h1:(m:Int)*e=n*d:=by omega
  exact⟨by exact_mod_cast h1,.inl (z (by omega))⟩
 ·have h1:(m:Int)*e=n*d:=by omega
  exact⟨by exact_mod_cast h1,.inr rfl⟩
theorem Fct.Rt.parts{f:Fct}(h:f.Rt):arity f.kind≠0∧f.args.length=arity f.kind∧(∀a∈f.args,0≤a∧a<40)∧
  (if f.kind=9 then ratOk f.neg f.abs f.den=true else f.neg=false∧f.abs=[]∧f.den=[]):=by
 have:=h.ok
 unfold C3 wrong at this;simp only[decide_eq_true_eq]at this;by_cases h1:arity f.kind=0
 ·rw[if_pos h1]at this;cases this
 rw[if_neg h1]at this
 by_cases h2:f.args.length≠arity f.kind
 ·rw[if_pos h2]at this;cases this
 rw[if_neg h2]at this
 by_cases h3:f.args.any (fun a=>decide (a<0)||decide (40≤a))=true
 ·rw[if_pos h3]at this;cases this
 rw[if_neg h3]at this
 refine⟨h1,by omega,fun a ha=> ?_,?_⟩
 ·simp only[List.any_eq_true,not_exists,Bool.or_eq_true,decide_eq_true_eq,not_and,not_or]at h3;have:=h3 a ha;omega
 ·by_cases h9:f.kind=9
  ·rw[if_pos h9]at this ⊢
   by_cases h4:ratOk f.neg f.abs f.den=true
   ·exact h4
   ·rw[if_neg h4]at this;cases this
  ·rw[if_neg h9]at this ⊢
   by_cases h4:noRat f.neg f.abs f.den=true
   ·unfold noRat at h4;simp only[AR,Bool.not_eq_true',decide_eq_true_eq]at h4;exact⟨h4.1.1,h4.1.2,h4.2⟩
   ·rw[if_neg h4]at this;cases this
theorem Fct.Rt.num{f:Fct}(h:f.Rt):f.Num:=fun h9=>by
 have:=h.parts.2.2.2
 rw[if_pos h9]at this
 exact(Cz this h.mild.oa h.mild.od).2.2.1
theorem Fct.ext'{f g:Fct}(h1:f.kind=g.kind)(h2:f.args=g.args)(h3:f.neg=g.neg)(h4:f.abs=g.abs)(h5:f.den=g.den):f=g:=by
 cases f;cases g;simp only at h1 h2 h3 h4 h5;subst h1 h2 h3 h4 h5;rfl
theorem Tt{f g:Fct}(hf:f.Rt)(hg:g.Rt):Gs f g=0↔f=g:=by
 constructor
 ·intro h;rw[Nr]at h;by_cases h0:cmpK f g=0
  ·obtain⟨k1,k2⟩:=cmpK_zero.1 h0
   rw[if_neg (by simp[h0])]at h
   have p:=hf.parts.2.2.2;have q:=hg.parts.2.2.2;by_cases h9:f.kind=9
   ·rw[if_pos h9]at h p
    rw[if_pos (by omega)]at q
    obtain⟨a1,a2,a3,a4,a5⟩:=Cz p hf.mild.oa hf.mild.od
    obtain⟨b1,b2,b3,b4,b5⟩:=Cz q hg.mild.oa hg.mild.od
    have hc:=(DP _ _).1 h;obtain⟨c1,c2⟩:=jbo hc a3 b3;obtain⟨e1,e2⟩:=jdI a4 b4 a3 b3 c1;refine Fct.ext' k1 k2 ?_ (by rw[a1,b1,e1]) (by rw[a2,b2,e2])
    rcases c2 with c2|c2
    ·cases hn:f.neg with
     |true=>exact absurd c2 (a5 hn)
     |false=>
      cases hn':g.neg with
      |true=>exact absurd (e1 ▸ c2) (b5 hn')
      |false=>rfl
    ·exact c2
   ·rw[if_neg h9]at p
    rw[if_neg (by omega)]at q
    exact Fct.ext' k1 k2 (by rw[p.1,q.1]) (by rw[p.2.1,q.2.1]) (by rw[p.2.2,q.2.2])
  ·rw[if_pos h0]at h
   exact absurd h h0
 ·rintro rfl
  exact isCmp_F.self hf.num
end Go.Va
namespace Go.Va
open Int renaming natCast_add → qA, natCast_mul → qB, natCast_emod → qC, natCast_ediv → qD, natCast_pow → qE
open List renaming reduceReplicate → qF
open Go.Proofs
theorem jbG(f g:Fct)(hf:f.Mild)(hg:g.Mild)(nf:f.Num)(ng:g.Num):CallsF Tryz.prog 28 [.agg f.ds,.agg g.ds] (.u (.c (.d (.int .i64 (Gs f g))))):=by
 obtain⟨k,a,n,m,d⟩:=f
 obtain⟨k',a',n',m',d'⟩:=g
 obtain⟨la,ld,oa,od,ln⟩:=hf
 obtain⟨la',ld',oa',od',ln'⟩:=hg
 simp only[Fct.Num,Fct.ds]at*;have k1:=PX k k';have k2:=jlX a a' ln ln';have k3:CallsF Tryz.prog 67 [.c (.slice 2 [.int .i64 (cmpZ k k'),.int .i64 (BF a a')])] _:=S8 [cmpZ k k',BF a a'] (by simp)
 have e:cmpK ⟨k,a,n,m,d⟩ ⟨k',a',n',m',d'⟩=BV [cmpZ k k',BF a a']:=rfl
 have z:=cmpK_zero (a:=⟨k,a,n,m,d⟩) (b:=⟨k',a',n',m',d'⟩);simp only at z;rw[←e]at k3;unfold Gs;generalize cmpK ⟨k,a,n,m,d⟩ ⟨k',a',n',m',d'⟩=c at*;refine cO Tryz.func28 rfl ?_;simp -implicitDefEqProofs[jJ,-qA,-qB];refine AA (Ah [0,1,0,4,15,0,32,0,128,511,1023,2047,4095]) [.any [] [] (Aq [[2],[6],[3],[8],[7,9],[2],[11],[3],[13]]),.one,.one,.one,.one] (by rfl) ?_
 simp -implicitDefEqProofs[jJ,-qA,-qB];refine Ae k1 ?_;simp -implicitDefEqProofs[jJ,-qA,-qB];refine Ac k2 ?_;simp -implicitDefEqProofs[jJ,-qA,-qB];refine Ac k3 ?_;by_cases h:c=0
 ·by_cases h9:k=9
  ·have h9':k'=9:=by rw[←(z.1 h).1];exact h9
   have k4:=UJ n n' m d m' d' oa (by omega) od (by omega) oa' (by omega) od' (by omega) (nf h9) (ng h9')
   simp -implicitDefEqProofs[jJ,-qA,-qB,h,h9];refine Ac k4 ?_;simp -implicitDefEqProofs[jJ,-qA,-qB,G4]
  ·simp -implicitDefEqProofs[jJ,-qA,-qB,h,h9]
 ·simp -implicitDefEqProofs[jJ,-qA,-qB,h]
end Go.Va
