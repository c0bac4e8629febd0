/- a part of the proof -/
import Derived.Test.YtljdeoefpialhaaGreatDoorHau
import Derived.Test.YtljdeoefpialhaaGreatDoorHao
import Derived.Test.YtljdeoefpialhaaGreatDoorHaq
set_option linter.all false
set_option maxHeartbeats 4000000
set_option maxRecDepth 10000
namespace Go.Va
open Int renaming natCast_add → qA, natCast_mul → qB, natCast_emod → qC, natCast_ediv → qD, natCast_pow → qE
open List renaming reduceReplicate → qF
open Go.Proofs
theorem GS(a:List Nat):CallsF Tryz.prog 146 [.c (Ad a)] (.u (.agg [.d (.bool false),.d (Ad a)])):=by
 refine cO Tryz.func146 rfl ?_;simp -implicitDefEqProofs[jJ,-qA,-qB]
theorem El(neg:Bool)(a b:List Nat)(hb:Ok b)(hm:b.length≤1099511627776)(h0:val b≠0):
  CallsF Tryz.prog 143 [.agg [.bool neg,Ad a,Ad b]] (.tup [.agg [.d (.bool neg),.d (Ad a)],.c (.d (Ad b))]):=by
 refine cO Tryz.func143 rfl ?_;simp -implicitDefEqProofs[jJ,-qA,-qB];refine Ac (RH b hb hm) ?_
 have hz:FN (val b)≠0:=fun h=>h0 ((Oy _).1 h)
 simp -implicitDefEqProofs[jJ,-qA,-qB,hz];refine AA (Ah [0,1,0,4,3,31]) [.any [] [] [⟨0,[1],[],[],[]⟩,⟨0,[10],[],[],[]⟩,⟨0,[1],[2],[],[]⟩,⟨0,[12],[2],[],[]⟩,⟨2,[2,11],[],[],[2]⟩],.one] (by rfl) ?_
 simp -implicitDefEqProofs[jJ,-qA,-qB]
theorem L0(neg:Bool)(a b:List Nat)(ha:Ok a)(hl:a.length≤1099511627776)(hb:Ok b)(hm:b.length≤1099511627776)(h0:val b≠0):
  CallsF Tryz.prog 125 [.agg [.bool neg,Ad a,Ad b]] (.u (.c (.d (.int .i64 (Bg neg (val a)))))):=by
 refine cO Tryz.func125 rfl ?_;simp -implicitDefEqProofs[jJ,-qA,-qB];refine Ac (El neg a b hb hm h0) ?_
 simp -implicitDefEqProofs[jJ,-qA,-qB];refine Ac (HS neg a ha hl) ?_;simp -implicitDefEqProofs[jJ,-qA,-qB]
theorem DP(a b:Int):cmpZ a b=0↔a=b:=by
 unfold cmpZ;split
 ·simp;omega
 ·split
  ·simp;omega
  ·simp;omega
theorem JO(neg:Bool)(m d:Nat):toZ neg (m*d)=toZ neg m*d:=by
 unfold toZ;split
 ·rw[Int.neg_mul,Int.natCast_mul]
 ·rw[Int.natCast_mul]
theorem Qs(neg:Bool)(m d:Nat)(h:d≠0):Bg neg (m*d)=Bg neg m:=by
 unfold Bg;simp[Nat.mul_eq_zero,h]
theorem UJ(na nb:Bool)(a b c d:List Nat)(ha:Ok a)(la:a.length≤1000000)(hb:Ok b)(lb:b.length≤1000000)(hc:Ok c)(lc:c.length≤1000000)(hd:Ok d)(ld:d.length≤1000000)(b0:val b≠0)(d0:val d≠0):
  CallsF Tryz.prog 70 [.agg [.bool na,Ad a,Ad b],.agg [.bool nb,Ad c,Ad d]] (.u (.c (.d (.int .i64 (cmpZ (toZ na (val a)*val d) (toZ nb (val c)*val b)))))):=by
 refine cO Tryz.func70 rfl ?_;simp -implicitDefEqProofs[jJ,-qA,-qB];refine AA (Ah [0,1,0,7,15,31]) [.any [] [] (Aq [[2],[11],[3]]),.one,.one,.one] (by rfl) ?_
 simp -implicitDefEqProofs[jJ,-qA,-qB];refine Ae (L0 na a b ha (by omega) hb (by omega) b0) ?_
 simp -implicitDefEqProofs[jJ,-qA,-qB];refine Ac (L0 nb c d hc (by omega) hd (by omega) d0) ?_
 have e1:=Qs na (val a) (val d) d0;have e2:=Qs nb (val c) (val b) b0;rw[←JO,←JO];have L1:Bg na (val a)<Bg nb (val c)→cmpZ (toZ na (val a*val d)) (toZ nb (val c*val b))= -1:=fun h=>OE (by rw[e1,e2];exact h)
 have L2:Bg nb (val c)<Bg na (val a)→cmpZ (toZ na (val a*val d)) (toZ nb (val c*val b))=1:=fun h=>O9 (by rw[e1,e2];exact h)
 have m1:=F2 na false a d ha (by omega) hd (by omega)
 have m2:=F2 nb false c b hc (by omega) hb (by omega)
 have b1:=Cp a d ha hd;have b2:=Cp c b hc hb;have k:=YH (sg na (val a*val d)) (sg nb (val c*val b)) (limbs (val a*val d)) (limbs (val c*val b)) (Aw _) (by omega) (Aw _) (by omega)
 rw[Az,Az,FR,FR]at k
 have p1:=El na a b hb (by omega) b0
 have p2:=El nb c d hd (by omega) d0
 have w1:=GS d;have w2:=GS b;clear ha la hb lb hc lc hd ld b0 d0 b1 b2 e1 e2;rcases Int.lt_trichotomy (Bg na (val a)) (Bg nb (val c))with h|h|h
 ·rw[L1 h]
  have:Bg na (val a)≠Bg nb (val c):=by omega
  simp -implicitDefEqProofs[jJ,-qA,-qB,this,h]
 ·simp -implicitDefEqProofs[jJ,-qA,-qB,h];refine Ac p1 ?_;simp -implicitDefEqProofs[jJ,-qA,-qB];refine Ac p2 ?_;simp -implicitDefEqProofs[jJ,-qA,-qB];refine AA (Ah [0,0,2,7,0,0,47,127,255,511]) [.any [] [] (Aq [[7],[10],[32],[31,33],[9],[8],[36]]),.one,.one,.one] (by rfl) ?_
  simp -implicitDefEqProofs[jJ,-qA,-qB];refine Ae w1 ?_;simp -implicitDefEqProofs[jJ,-qA,-qB];refine Ae m1 ?_;simp -implicitDefEqProofs[jJ,-qA,-qB,AU];refine Ae w2 ?_;simp -implicitDefEqProofs[jJ,-qA,-qB];refine Ac m2 ?_;simp -implicitDefEqProofs[jJ,-qA,-qB,AU];refine Ac k ?_;simp -implicitDefEqProofs[jJ,-qA,-qB]
 ·rw[L2 h]
  have h2:Bg na (val a)≠Bg nb (val c):=by omega
  have h3: ¬Bg na (val a)<Bg nb (val c):=by omega
  simp -implicitDefEqProofs[jJ,-qA,-qB,h2,h3]
theorem Oh(na nb:Bool)(a b c d:List Nat)(ha:Ok a)(la:a.length≤1000000)(hb:Ok b)(lb:b.length≤1000000)(hc:Ok c)(lc:c.length≤1000000)(hd:Ok d)(ld:d.length≤1000000)(b0:val b≠0)(d0:val d≠0):
  CallsF Tryz.prog 81 [.agg [.bool na,Ad a,Ad b],.agg [.bool nb,Ad c,Ad d]] (.u (.c (.d (.bool (decide (toZ na (val a)*val d=toZ nb (val c)*val b)))))):=by
 refine cO Tryz.func81 rfl ?_;have k:=UJ na nb a b c d ha la hb lb hc lc hd ld b0 d0;have e:=DP (toZ na (val a)*val d) (toZ nb (val c)*val b);clear ha la hb lb hc lc hd ld b0 d0;simp -implicitDefEqProofs[jJ,-qA,-qB];refine Ac k ?_
 simp -implicitDefEqProofs[jJ,-qA,-qB,e]
theorem Ea:limbs 1=[1]:=rfl
theorem KS(n:Nat)(hn:n<9223372036854775808):CallsF Tryz.prog 84 [.c (.int .i64 n)] (.u (.agg [.d (.bool false),.d (Ad (limbs n)),.d (Ad (limbs 1))])):=by
 refine cO Tryz.func84 rfl ?_;simp -implicitDefEqProofs[jJ,-qA,-qB];refine Ac (HX n hn) ?_
 simp -implicitDefEqProofs[jJ,-qA,-qB];refine Ac Ir ?_;simp -implicitDefEqProofs[jJ,-qA,-qB,AU,sg,Ea]
def ratOk(neg:Bool)(a b:List Nat):Bool:=lastOk a&& !(neg&&decide (a=[]))&& !decide (b=[])&&lastOk b&&decide (Nat.gcd (val a) (val b)=1)
theorem M4{a:List Nat}(ha:Ok a)(hl:a.length≤8):val a<340282366920938463463374607431768211456:=by
 have:=Bz a ha
 rw[←QK]
 exact Nat.lt_of_lt_of_le this (Nat.pow_le_pow_right (by omega) hl)
theorem Hx{n:Nat}:limbs n=[1]↔n=1:=by
 constructor
 ·intro h;have:=Az n;rw[h]at this
  simpa [val]using this.symm
 ·rintro rfl;rfl
theorem PB(neg:Bool)(a b:List Nat)(ha:Ok a)(hl:a.length≤8)(hb:Ok b)(hm:b.length≤8):
  CallsF Tryz.prog 74 [.agg [.bool neg,Ad a,Ad b]] (.u (.c (.d (.bool (ratOk neg a b))))):=by
 refine cO Tryz.func74 rfl ?_;have k:=jbv neg a (by omega)
 have g:=L5 a b ha (by omega) hb (by omega)
 unfold ratOk;cases hr:(lastOk a&& !(neg&&decide (a=[])))
 ·rw[hr]at k
  simp -implicitDefEqProofs[jJ,-qA,-qB];refine Ac k ?_;simp -implicitDefEqProofs[jJ,-qA,-qB]
 ·rw[hr]at k
  rcases Nat.eq_zero_or_pos b.length with h0|h0
  ·have:b=[]:=jzv.1 h0
   subst this;simp -implicitDefEqProofs[jJ,-qA,-qB];refine Ac k ?_;simp -implicitDefEqProofs[jJ,-qA,-qB]
  ·obtain⟨n,hn⟩: ∃n,b.length=n+1:=⟨b.length - 1,by omega⟩
   have hne:b≠[]:=fun h=>by rw[h]at hn;simp at hn
   obtain⟨x,hx⟩:=EI (a:=b) (n:=n) (by omega)
   have hg:b.getLast? =some x:=by rw[List.getLast?_eq_getElem?,hn];simpa using hx
   have e:b[n]'(by omega)=x:=by
    have:=AD (l:=b) (i:=n) (by omega)
    rw[hx]at this
    exact(Bi this).symm
   have o1:=EK b;have o2:=EK (limbs (Nat.gcd (val a) (val b)));have v1:b=[1]→val b=1:=fun h=>by rw[h];rfl
   have hlast:lastOk b= !decide (x=0):=by unfold lastOk;rw[hg];simp
   rw[hlast]
   simp -implicitDefEqProofs[jJ,-qA,-qB,hn];refine Ac k ?_;simp -implicitDefEqProofs[jJ,-qA,-qB,hn,hx,u16,e,hne];refine⟨by omega,fun h h'=>absurd h h',fun hx0=> ?_⟩
   refine Ac o1 ?_;by_cases hb1:b=[1]
   ·have e1:Nat.gcd (val a) (val b)=1:=by rw[v1 hb1,Nat.gcd_one_right]
    simp -implicitDefEqProofs[jJ,-qA,-qB,hb1,hx0];rw[←hb1,e1]
   ·simp -implicitDefEqProofs[jJ,-qA,-qB,hb1,hx0];refine Ac g ?_;simp -implicitDefEqProofs[jJ,-qA,-qB];refine Ac o2 ?_;simp -implicitDefEqProofs[jJ,-qA,-qB,Hx]
theorem Ty{m d:Nat}:decide (limbs d=[1])=decide (d=1):=by simp[Hx]
theorem Qf(neg:Bool)(m d:Nat)(hm:m<340282366920938463463374607431768211456)(hd:d<340282366920938463463374607431768211456)(h0:d≠0)(hg:Nat.gcd m d=1):
  CallsF Tryz.prog 162 [.agg [.bool neg,Ad (limbs m)],.c (Ad (limbs d))] (.u (.agg [.d (.bool (sg neg m)),.d (Ad (limbs m)),.d (Ad (limbs d))])):=by
 refine cO Tryz.func162 rfl ?_;have lm:=BP hm;have ld:=BP hd;have n1:=EO (limbs d) (Aw _) (by omega)
 have n2:=QB neg (limbs m) (Aw _) (by omega)
 have g:=L5 (limbs m) (limbs d) (Aw _) (by omega) (Aw _) (by omega)
 have o1:=EK (limbs d);have o2:=EK (limbs 1);rw[Az,Az,hg]at g;rw[Az]at n1 n2;simp only[Hx]at o1 o2;have hne:limbs d≠[]:=fun h=>h0 (limbs_nil.1 h)
 simp -implicitDefEqProofs[jJ,-qA,-qB];refine Ac n1 ?_;simp -implicitDefEqProofs[jJ,-qA,-qB];refine Ac n2 ?_;simp -implicitDefEqProofs[jJ,-qA,-qB,AU];by_cases hz:m=0
 ·subst hz;have:d=1:=by simpa using hg
  subst this;simp -implicitDefEqProofs[jJ,-qA,-qB,Cm,Ea];refine Ac Ir ?_;simp -implicitDefEqProofs[jJ,-qA,-qB,sg];rfl
 ·have hne2:limbs m≠[]:=fun h=>hz (limbs_nil.1 h)
  simp -implicitDefEqProofs[jJ,-qA,-qB,hne,hne2];refine Ac o1 ?_;by_cases h1:d=1
  ·subst h1;simp -implicitDefEqProofs[jJ,-qA,-qB]
  ·simp -implicitDefEqProofs[jJ,-qA,-qB,h1];refine Ac g ?_;simp -implicitDefEqProofs[jJ,-qA,-qB];refine Ac o2 ?_;simp -implicitDefEqProofs[jJ,-qA,-qB]
theorem Dw{neg:Bool}{m:Nat}:Bg neg m=0↔m=0:=by
 unfold Bg;split
 ·simp[*]
 ·cases neg<;>simp[*]
theorem T4(na nb:Bool)(m d:Nat)(hm:m<340282366920938463463374607431768211456)(hd:d<340282366920938463463374607431768211456)(hg:Nat.gcd m d=1):
  CallsF Tryz.prog 155 [.agg [.bool na,Ad (limbs m)],.agg [.bool nb,Ad (limbs d)]]
   (if d=0 then .tup [.agg [.d (.bool false),.d (Ad []),.d (Ad [])],.c (.d (.int .i64 3))]
   else .tup [.agg [.d (.bool (sg (!decide (na=nb)) m)),.d (Ad (limbs m)),.d (Ad (limbs d))],.c (.d (.int .i64 0))]):=by
 have ld:=BP hd;have s1:=HS nb (limbs d) (Aw _) (by omega)
 rw[Az]at s1
 by_cases h0:d=0
 ·rw[if_pos h0]
  refine cO Tryz.func155 rfl ?_;simp -implicitDefEqProofs[jJ,-qA,-qB];refine Ac s1 ?_
  simp -implicitDefEqProofs[jJ,-qA,-qB,Dw,h0];rfl
 ·rw[if_neg h0]
  refine cO Tryz.func155 rfl ?_;simp -implicitDefEqProofs[jJ,-qA,-qB];refine Ac s1 ?_
  simp -implicitDefEqProofs[jJ,-qA,-qB,Dw,h0];refine Ac (Qf (!decide (na=nb)) m d hm hd h0 hg) ?_;simp -implicitDefEqProofs[jJ,-qA,-qB]
theorem jem(neg:Bool)(m d:Nat)(hm:m<340282366920938463463374607431768211456)(hd:d<340282366920938463463374607431768211456)(d0:d≠0)(hg:Nat.gcd m d=1):
  CallsF Tryz.prog 192 [.agg [.bool false,Ad (limbs 1),Ad (limbs 1)],.agg [.bool neg,Ad (limbs m),Ad (limbs d)]]
   (if m=0 then .tup [.agg [.d (.bool false),.d (Ad []),.d (Ad [])],.c (.d (.int .i64 3))]
   else .tup [.agg [.d (.bool neg),.d (Ad (limbs d)),.d (Ad (limbs m))],.c (.d (.int .i64 0))]):=by
 have lm:=BP hm;have ld:=BP hd;have l1:(limbs 1).length=1:=rfl;have p1:=El false (limbs 1) (limbs 1) (Aw _) (by omega) (by rw[Az];omega)
 have p2:=El neg (limbs m) (limbs d) (Aw _) (by omega) (by rw[Az];exact d0)
 have m1:=F2 false false (limbs 1) (limbs d) (Aw _) (by omega) (Aw _) (by omega)
 have m2:=F2 neg false (limbs m) (limbs 1) (Aw _) (by omega) (Aw _) (by omega)
 rw[Az,Az,Nat.one_mul]at m1
 rw[Az,Az,Nat.mul_one]at m2
 have k:=T4 (sg false d) (sg neg m) d m hd hm (by rw[Nat.gcd_comm];exact hg)
 have e1:sg (!decide (sg false d=sg neg m)) d=(neg&&decide (0<m)):=by
  have:0<d:=by omega
  cases neg<;>by_cases hz:m=0<;>simp[sg,this,hz]<;>omega
 rw[e1]at k
 refine cO Tryz.func192 rfl ?_;simp -implicitDefEqProofs[jJ,-qA,-qB];refine Ac p1 ?_
 simp -implicitDefEqProofs[jJ,-qA,-qB];refine Ac p2 ?_;simp -implicitDefEqProofs[jJ,-qA,-qB];refine AA (Ah [0,0,2,7,0,0,47,127,255,511,511,2047,4095]) [.any [] [] (Aq [[6],[9],[21],[20,22],[8],[7],[25]]),.one,.one,.any [] [] (Aq [[28],[28]]),.one,.one] (by rfl) ?_
 simp -implicitDefEqProofs[jJ,-qA,-qB];refine Ae (GS (limbs d)) ?_;simp -implicitDefEqProofs[jJ,-qA,-qB];refine Ae m1 ?_;simp -implicitDefEqProofs[jJ,-qA,-qB,AU];refine Ae (GS (limbs 1)) ?_;simp -implicitDefEqProofs[jJ,-qA,-qB];refine Ac m2 ?_;simp -implicitDefEqProofs[jJ,-qA,-qB,AU];refine Ac k ?_;by_cases h0:m=0
 ·simp -implicitDefEqProofs[jJ,-qA,-qB,h0]
 ·have:0<m:=by omega
  simp -implicitDefEqProofs[jJ,-qA,-qB,h0,this]
theorem H3(p c x y:Nat):p*((c+x+y)%65536)+p*65536*((c+x+y)/65536)=p*c+p*x+p*y:=by
 have h:=Nat.div_add_mod (c+x+y) 65536;rw[Nat.mul_assoc,←Nat.mul_add,Nat.add_comm,h,Nat.mul_add,Nat.mul_add]
theorem FO{o:List Nat}{i v:Nat}(h:i<o.length):val ((o.set i v).take (i+1))=val (o.take i)+65536^i*v:=by
 rw[Dp (by simpa using h),List.take_set_of_le (AO _),AL,List.getElem?_set_self h,Option.getD_some]
theorem Qp{o:List Nat}(ho:Ok o)(h:o=[]∨65536^(o.length - 1)≤val o):o=limbs (val o):=by
 have h1:=Gc o ho;have h2:=FF o o.length;have h3:(limbs (val o)).length=Bw o o.length:=by rw[←h1,A8];omega
 rcases h with rfl|h
 ·rfl
 ·have h4:=Bz (limbs (val o)) (Aw _);rw[Az]at h4;have h5:o.length - 1<(limbs (val o)).length:=by
   rcases Nat.lt_or_ge (o.length - 1) (limbs (val o)).length with h6|h6
   ·exact h6
   ·have:=Nat.pow_le_pow_right (show 0<65536 by omega) h6
    omega
  rw[←h1,Ba (by omega)]
theorem TD{o:List Nat}{v:Nat}(ho:Ok o)(h:val o+65536^o.length*1=v):D.slice (o.length+1) (List.take (o.length+1) (o.map u16++[D.int .u16 (IntKind.u16.wrap 1)]))=Ad (limbs v):=by
 have e:o++[1]=limbs v:=by
  have h1:val (o++[1])=v:=by rw[Ks];exact h
  have:=Qp (o:=o++[1]) (ho.app (Ok.nil.cons (by omega))) (.inr (by rw[List.length_append,List.length_singleton,Nat.add_sub_cancel,h1];omega))
  rwa [h1]at this
 have e2:o.map u16++[D.int .u16 (IntKind.u16.wrap 1)]=(o++[1]).map u16:=by
  rw[List.map_append]
  rfl
 rw[e2,e,Ba (by rw[←e];simp)]
 have:o.length+1=(limbs v).length:=by rw[←e];simp
 rw[this]
 rfl
theorem QT{o x:List Nat}{v q:Nat}(ho:Ok o)(hx:o.length=x.length)(hq:x=[]∨65536^(x.length - 1)≤q)(hle:q≤v)(h:val o=v):D.slice x.length (List.take x.length (o.map u16))=Ad (limbs v):=by
 have e:o=limbs v:=by
  have:=Qp ho (by
   rcases hq with rfl|hq
   ·exact .inl (jzv.1 hx)
   ·exact .inr (by rw[hx,h];omega))
  rwa [h]at this
 rw[←hx,Ba (by simp),←e]
 rfl
theorem jc1(a b:List Nat)(ha:Ok a)(hl:a.length≤100000)(hb:Ok b)(hm:b.length≤100000):
  CallsF Tryz.prog 326 [.c (Ad a),.c (Ad b)] (.u (.c (.d (Ad (limbs (val a+val b)))))):=by
 have ta:=B2 a ha (by omega)
 have tb':=B2 b hb (by omega)
 have l1:=Bu a ha;have l2:=Bu b hb;generalize val a=m at*;generalize val b=n at*;clear ha hb;have low: ∀k,limbs k=[]∨65536^((limbs k).length - 1)≤k:=fun k=>by
  by_cases h:(limbs k).length=0
  ·exact .inl (jzv.1 h)
  ·exact .inr (XN (by omega))
 have om:=Aw m;have on:=Aw n;have vm:=Az m;have vn:=Az n;have lm:=low m;have ln:=low n;clear low;have hsum:m+n=n+m:=Nat.add_comm m n;refine cO Tryz.func326 rfl ?_;simp -implicitDefEqProofs[jJ,-qA,-qB,-qC,-qD,-qE,-List.map_set]
 (first|refine Ac ta ?_|refine Ae ta ?_)
 simp -implicitDefEqProofs[jJ,-qA,-qB,-qC,-qD,-qE,-List.map_set]
 (first|refine Ac tb' ?_|refine Ae tb' ?_)
 simp -implicitDefEqProofs[jJ,-qA,-qB,-qC,-qD,-qE,-List.map_set];by_cases hs:(limbs m).length<(limbs n).length
 ·simp -implicitDefEqProofs[jJ,-qA,-qB,-qC,-qD,-qE,-List.map_set,hs];refine⟨?_,fun h=>by omega⟩
  rw[hsum]
  generalize limbs m=y at*;generalize limbs n=x at*;generalize m=p at*;generalize n=q at*;clear hsum;have hle:y.length≤x.length:=by omega
  have hmx:x.length≤100000:=by omega
  clear hs l1 l2;refine⟨by omega,⟨by omega,by omega⟩,?_⟩
  refine AV (fun z:Nat×Nat×List Nat=>⟨[(28,vI .i64 z.1),(27,vI .i64 x.length),(26,vC (.d (Ad x))),(6,vI .u32 z.2.1),(5,vC (.sl 25 0 x.length)),(1,vC (.d (Ad y)))],[(25,.row 1 (z.2.2.map u16) true)]⟩)
   (fun z=>z.1≤x.length∧z.2.1≤1∧Ok z.2.2∧z.2.2.length=x.length∧val (z.2.2.take z.1)+65536^z.1*z.2.1=val (x.take z.1)+val (y.take z.1)) (fun z=>x.length - z.1)
   (0,0,List.replicate x.length 0) (by simp[AW,lk,St.le,vI,vC,IW]) ⟨by simp,by simp,fun z hz=>by rw[List.eq_of_mem_replicate hz];omega,by simp,by simp[val]⟩ ?_
  rintro⟨i,c,o⟩ ⟨h1,h2,h3,h4,h5⟩
  simp only at h1 h2 h3 h4 h5;by_cases hi:i<x.length
  ·have hxi:=on.get (AD hi);have hio:i<o.length:=by omega
   have ex:=Dp hi;rw[AL,AD hi,Option.getD_some]at ex;by_cases hj:i<y.length
   ·have hyi:=om.get (AD hj);have ey:=Dp hj;rw[AL,AD hj,Option.getD_some]at ey;simp -implicitDefEqProofs[jJ,-qA,-qB,-qC,-qD,-qE,-List.map_set,hi,hj,hio,u16];have es:(c+x[i]+y[i])%4294967296=c+x[i]+y[i]:=by omega
    refine⟨by omega,by omega,i+1,(c+x[i]+y[i])/65536,o.set i ((c+x[i]+y[i])%65536),⟨⟨rfl,by rw[es]⟩,rfl⟩,⟨by omega,by omega,h3.set _ (by omega),by simpa using h4,?_⟩,by omega⟩
    have hA:=H3 (65536^i) c x[i] y[i];rw[FO hio,ex,ey,Nat.pow_succ];omega
   ·have ey:y.take (i+1)=y.take i:=by rw[Ba (by omega),Ba (by omega)]
    simp -implicitDefEqProofs[jJ,-qA,-qB,-qC,-qD,-qE,-List.map_set,hi,hj,hio,u16];have es:(c+x[i])%4294967296=c+x[i]:=by omega
    refine⟨by omega,by omega,i+1,(c+x[i])/65536,o.set i ((c+x[i])%65536),⟨⟨rfl,by rw[es]⟩,rfl⟩,⟨by omega,by omega,h3.set _ (by omega),by simpa using h4,?_⟩,by omega⟩
    have hA:=H3 (65536^i) c x[i] 0;rw[FO hio,ex,ey,Nat.pow_succ];simp only[Nat.add_zero,Nat.mul_zero]at hA;omega
  ·have hi2:i=x.length:=by omega
   subst hi2;rw[Ba (by omega),BM,Ba (by omega),vn,vm]at h5
   by_cases hc:0<c
   ·have hc1:c=1:=by omega
    subst hc1;simp -implicitDefEqProofs[jJ,-qA,-qB,-qC,-qD,-qE,-List.map_set,u16,h4];rw[←h4]at h5 ⊢;exact⟨by omega,TD h3 h5⟩
   ·have hc0:c=0:=by omega
    subst hc0;simp -implicitDefEqProofs[jJ,-qA,-qB,-qC,-qD,-qE,-List.map_set,h4];exact QT h3 h4 ln (by omega) (by omega)
 ·simp -implicitDefEqProofs[jJ,-qA,-qB,-qC,-qD,-qE,-List.map_set,hs];intro hs';generalize limbs m=x at*;generalize limbs n=y at*;generalize m=q at*;generalize n=p at*;clear hsum;have hle:y.length≤x.length:=by omega
  have hmx:x.length≤100000:=by omega
  clear hs l1 l2;refine⟨by omega,⟨by omega,by omega⟩,?_⟩
  refine AV (fun z:Nat×Nat×List Nat=>⟨[(28,vI .i64 z.1),(27,vI .i64 x.length),(26,vC (.d (Ad x))),(6,vI .u32 z.2.1),(5,vC (.sl 25 0 x.length)),(1,vC (.d (Ad y)))],[(25,.row 1 (z.2.2.map u16) true)]⟩)
   (fun z=>z.1≤x.length∧z.2.1≤1∧Ok z.2.2∧z.2.2.length=x.length∧val (z.2.2.take z.1)+65536^z.1*z.2.1=val (x.take z.1)+val (y.take z.1)) (fun z=>x.length - z.1)
   (0,0,List.replicate x.length 0) (by simp[AW,lk,St.le,vI,vC,IW]) ⟨by simp,by simp,fun z hz=>by rw[List.eq_of_mem_replicate hz];omega,by simp,by simp[val]⟩ ?_
  rintro⟨i,c,o⟩ ⟨h1,h2,h3,h4,h5⟩
  simp only at h1 h2 h3 h4 h5;by_cases hi:i<x.length
  ·have hxi:=om.get (AD hi);have hio:i<o.length:=by omega
   have ex:=Dp hi;rw[AL,AD hi,Option.getD_some]at ex;by_cases hj:i<y.length
   ·have hyi:=on.get (AD hj);have ey:=Dp hj;rw[AL,AD hj,Option.getD_some]at ey;simp -implicitDefEqProofs[jJ,-qA,-qB,-qC,-qD,-qE,-List.map_set,hi,hj,hio,u16];have es:(c+x[i]+y[i])%4294967296=c+x[i]+y[i]:=by omega
    refine⟨by omega,by omega,i+1,(c+x[i]+y[i])/65536,o.set i ((c+x[i]+y[i])%65536),⟨⟨rfl,by rw[es]⟩,rfl⟩,⟨by omega,by omega,h3.set _ (by omega),by simpa using h4,?_⟩,by omega⟩
    have hA:=H3 (65536^i) c x[i] y[i];rw[FO hio,ex,ey,Nat.pow_succ];omega
   ·have ey:y.take (i+1)=y.take i:=by rw[Ba (by omega),Ba (by omega)]
    simp -implicitDefEqProofs[jJ,-qA,-qB,-qC,-qD,-qE,-List.map_set,hi,hj,hio,u16];have es:(c+x[i])%4294967296=c+x[i]:=by omega
    refine⟨by omega,by omega,i+1,(c+x[i])/65536,o.set i ((c+x[i])%65536),⟨⟨rfl,by rw[es]⟩,rfl⟩,⟨by omega,by omega,h3.set _ (by omega),by simpa using h4,?_⟩,by omega⟩
    have hA:=H3 (65536^i) c x[i] 0;rw[FO hio,ex,ey,Nat.pow_succ];simp only[Nat.add_zero,Nat.mul_zero]at hA;omega
  ·have hi2:i=x.length:=by omega
   subst hi2;rw[Ba (by omega),BM,Ba (by omega),vm,vn]at h5
   by_cases hc:0<c
   ·have hc1:c=1:=by omega
    subst hc1;simp -implicitDefEqProofs[jJ,-qA,-qB,-qC,-qD,-qE,-List.map_set,u16,h4];rw[←h4]at h5 ⊢;exact⟨by omega,TD h3 h5⟩
   ·have hc0:c=0:=by omega
    subst hc0;simp -implicitDefEqProofs[jJ,-qA,-qB,-qC,-qD,-qE,-List.map_set,h4];exact QT h3 h4 lm (by omega) (by omega)
theorem HP{p d r:Nat}{x y c:Nat}(h:x+65536*d=y+c+r):p*r+p*y+p*c=p*x+p*65536*d:=by
 have h1:p*(x+65536*d)=p*(y+c+r):=by rw[h]
 rw[Nat.mul_add,Nat.mul_add,Nat.mul_add,←Nat.mul_assoc]at h1
 omega
theorem Qc(a b:List Nat)(ha:Ok a)(hl:a.length≤100000)(hb:Ok b)(hm:b.length≤100000)(hle:val b≤val a):
  CallsF Tryz.prog 327 [.c (Ad a),.c (Ad b)] (.tup [.c (.d (Ad (limbs (val a - val b)))),.c (.d (.int .i64 0))]):=by
 have kc:=Jr a b ha (by omega) hb (by omega)
 have ta:=B2 a ha (by omega)
 have tb':=B2 b hb (by omega)
 have l1:=Bu a ha;have l2:=Bu b hb;have l3:=CG hle;generalize val a=m at*;generalize val b=n at*;clear ha hb;have ox:=Aw m;have oy:=Aw n;have vx:=Az m;have vy:=Az n;have hc: ¬cmp3 m n<0:=by
  unfold cmp3;rw[if_neg (by omega)]
  split<;>omega
 generalize limbs m=x at*;have kt:=fun o ho (hol:o.length≤1099511627776)=>B2 o ho hol
 refine cO Tryz.func327 rfl ?_;simp -implicitDefEqProofs[jJ,-qA,-qB,-qC,-qD,-qE,-List.map_set]
 (first|refine Ac kc ?_|refine Ae kc ?_)
 simp -implicitDefEqProofs[jJ,-qA,-qB,-qC,-qD,-qE,-List.map_set,hc]
 (first|refine Ac ta ?_|refine Ae ta ?_)
 simp -implicitDefEqProofs[jJ,-qA,-qB,-qC,-qD,-qE,-List.map_set]
 (first|refine Ac tb' ?_|refine Ae tb' ?_)
 simp -implicitDefEqProofs[jJ,-qA,-qB,-qC,-qD,-qE,-List.map_set];refine⟨⟨by omega,by omega⟩,?_⟩
 generalize limbs n=y at*;refine AV (fun z:Nat×Nat×List Nat=>⟨[(24,vI .i64 z.1),(23,vI .i64 x.length),(22,vC (.d (Ad x))),(7,vI .i32 z.2.1),(6,vC (.sl 21 0 x.length)),(1,vC (.d (Ad y)))],[(21,.row 1 (z.2.2.map u16) true)]⟩)
  (fun z=>z.1≤x.length∧z.2.1≤1∧Ok z.2.2∧z.2.2.length=x.length∧val (x.take z.1)+65536^z.1*z.2.1=val (z.2.2.take z.1)+val (y.take z.1)) (fun z=>x.length - z.1)
  (0,0,List.replicate x.length 0) (by simp[AW,lk,St.le,vI,vC,IW]) ⟨by simp,by simp,fun z hz=>by rw[List.eq_of_mem_replicate hz];omega,by simp,by simp[val]⟩ ?_
 rintro⟨i,c,o⟩ ⟨h1,h2,h3,h4,h5⟩
 simp only at h1 h2 h3 h4 h5;by_cases hi:i<x.length
 ·have hxi:=ox.get (AD hi);have hio:i<o.length:=by omega
  have ex:=Dp hi;rw[AL,AD hi,Option.getD_some]at ex;by_cases hj:i<y.length
  ·have hyi:=oy.get (AD hj);have ey:=Dp hj;rw[AL,AD hj,Option.getD_some]at ey;have w1:IntKind.i32.wrap (x[i]:Int)=x[i]:=GA (by omega)
   have w2:IntKind.i32.wrap (y[i]:Int)=y[i]:=GA (by omega)
   by_cases hd:(x[i]:Int) - (c:Nat) - (y[i]:Nat)<0
   ·have e:(x[i]:Int) - (c:Nat) - (y[i]:Nat)+65536=((x[i]+65536 - c - y[i]:Nat):Int):=by omega
    have tl:x[i]+65536 - c - y[i]<65536:=by omega
    simp -implicitDefEqProofs[jJ,-qA,-qB,-qC,-qD,-qE,-List.map_set,hi,hj,hio,u16,w1,w2,Fa,Fh,hd];refine⟨by omega,by omega,by omega,by omega,by omega,i+1,1,o.set i (x[i]+65536 - c - y[i]),⟨⟨rfl,rfl⟩,?_⟩,⟨by omega,by omega,h3.set _ tl,by simpa using h4,?_⟩,by omega⟩
    ·rw[e,DV _ (by omega),Ck _ _ _ (by omega)]
    ·have hS:=HP (p:=65536^i) (d:=1) (r:=x[i]+65536 - c - y[i]) (x:=x[i]) (y:=y[i]) (c:=c) (by omega)
     rw[FO hio,ex,ey,Nat.pow_succ]
     omega
   ·have e:(x[i]:Int) - (c:Nat) - (y[i]:Nat)=((x[i] - c - y[i]:Nat):Int):=by omega
    have tl:x[i] - c - y[i]<65536:=by omega
    simp -implicitDefEqProofs[jJ,-qA,-qB,-qC,-qD,-qE,-List.map_set,hi,hj,hio,u16,w1,w2,Fa,Fh,hd];refine⟨by omega,by omega,by omega,by omega,i+1,0,o.set i (x[i] - c - y[i]),⟨⟨rfl,rfl⟩,?_⟩,⟨by omega,by omega,h3.set _ tl,by simpa using h4,?_⟩,by omega⟩
    ·rw[e,DV _ (by omega),Ck _ _ _ (by omega)]
    ·have hS:=HP (p:=65536^i) (d:=0) (r:=x[i] - c - y[i]) (x:=x[i]) (y:=y[i]) (c:=c) (by omega)
     rw[FO hio,ex,ey,Nat.pow_succ]
     omega
  ·have ey:y.take (i+1)=y.take i:=by rw[Ba (by omega),Ba (by omega)]
   have w1:IntKind.i32.wrap (x[i]:Int)=x[i]:=GA (by omega)
   by_cases hd:(x[i]:Int) - (c:Nat)<0
   ·have e:(x[i]:Int) - (c:Nat)+65536=((x[i]+65536 - c:Nat):Int):=by omega
    have tl:x[i]+65536 - c<65536:=by omega
    simp -implicitDefEqProofs[jJ,-qA,-qB,-qC,-qD,-qE,-List.map_set,hi,hj,hio,u16,w1,Fa,Fh,hd];refine⟨by omega,by omega,by omega,by omega,i+1,1,o.set i (x[i]+65536 - c),⟨⟨rfl,rfl⟩,?_⟩,⟨by omega,by omega,h3.set _ tl,by simpa using h4,?_⟩,by omega⟩
    ·rw[e,DV _ (by omega),Ck _ _ _ (by omega)]
    ·have hS:=HP (p:=65536^i) (d:=1) (r:=x[i]+65536 - c) (x:=x[i]) (y:=0) (c:=c) (by omega)
     rw[FO hio,ex,ey,Nat.pow_succ]
     omega
   ·have e:(x[i]:Int) - (c:Nat)=((x[i] - c:Nat):Int):=by omega
    have tl:x[i] - c<65536:=by omega
    simp -implicitDefEqProofs[jJ,-qA,-qB,-qC,-qD,-qE,-List.map_set,hi,hj,hio,u16,w1,Fa,Fh,hd];refine⟨by omega,by omega,by omega,i+1,0,o.set i (x[i] - c),⟨⟨rfl,rfl⟩,?_⟩,⟨by omega,by omega,h3.set _ tl,by simpa using h4,?_⟩,by omega⟩
    ·rw[e,DV _ (by omega),Ck _ _ _ (by omega)]
    ·have hS:=HP (p:=65536^i) (d:=0) (r:=x[i] - c) (x:=x[i]) (y:=0) (c:=c) (by omega)
     rw[FO hio,ex,ey,Nat.pow_succ]
     omega
 ·have hi2:i=x.length:=by omega
  subst hi2;rw[BM,Ba (by omega),Ba (by omega),vx,vy]at h5
  have hv:=Bz o h3;rw[h4]at hv;have hc0:c=0:=by
   rcases Nat.lt_or_ge 0 c with h|h
   ·have hc1:c=1:=by omega
    subst hc1;omega
   ·omega
  subst hc0;have hvo:val o=m - n:=by omega
  have kt:=kt o h3 (by omega)
  rw[hvo]at kt
  rw[←h4]
  simp -implicitDefEqProofs[jJ,-qA,-qB,-qC,-qD,-qE,-List.map_set]
  (first|refine Ac kt ?_|refine Ae kt ?_)
  simp -implicitDefEqProofs[jJ,-qA,-qB,-qC,-qD,-qE,-List.map_set]
end Go.Va
