/- a part of the proof -/
import Derived.Test.YtkfdniccmcolgaaGreatWbs
set_option linter.all false
set_option maxHeartbeats 4000000
set_option maxRecDepth 10000
namespace Go.Va
open Int (natCast_add natCast_mul natCast_emod natCast_ediv natCast_pow)
open Go.Proofs
def Ws:List (List Nat):=(Aj [0,1,0,0,12,28,63,127])
@[simp]def Te:List Seg:=[.any [] [94] [⟨0,[3],[],[94],[]⟩,⟨0,[90],[],[94],[]⟩,⟨0,[5],[],[94],[]⟩,⟨0,[4],[],[94],[]⟩,⟨4,[92,93],[],[],[]⟩,⟨0,[94],[],[],[]⟩],.one,.one]
def UH:List (List Nat):=(Aj [0,1,0,0,12,28,63,127])
@[simp]def Pp:List Seg:=[.any [] [101] [⟨0,[3],[],[101],[]⟩,⟨0,[97],[],[101],[]⟩,⟨0,[4],[],[101],[]⟩,⟨0,[5],[],[101],[]⟩,⟨4,[99,100],[],[],[]⟩,⟨0,[101],[],[],[]⟩],.one,.one]
def IF:List (List Nat):=(Aj [0,1,0,7])
@[simp]def JP:List Seg:=[.any [] [] (Ao [[3],[42],[]]),.one]
def Nz:List (List Nat):=(Aj [0,1,0,0,12,28,0,64,0,0,768,2044,4095,8191])
@[simp]def Ow:List Seg:=[.any [] [78] [⟨0,[3],[],[78],[]⟩,⟨0,[74],[],[78],[]⟩,⟨0,[4],[],[78],[]⟩,⟨0,[5],[],[78],[]⟩,⟨4,[76,77],[],[],[]⟩,⟨0,[78],[],[],[]⟩,⟨0,[3],[],[78],[]⟩,⟨0,[80],[],[78],[]⟩,⟨0,[4],[],[78],[]⟩,⟨0,[5],[],[78],[]⟩,⟨0,[82,83],[],[78],[]⟩,⟨0,[81,84],[],[],[]⟩],.one,.one]
theorem Wt(k:Int)(l:List Int)(neg:Bool)(abs den:List Nat)(a b c d:Int)(hk:k=3∨k=4):CallsF Tryz.prog 119 [.agg [.int .i64 k,intsD l,.bool neg,Ab abs,Ab den],.agg [.int .i64 a,.int .i64 b],.agg [.int .i64 c,.int .i64 d]] (B6 k (a,b) (c,d)).res:=by
 have k1:=CF c d a b;have k2:=Ik c d a b;have k3:=Ik a b c d;have h2: ¬k=2:=by omega
 have h9: ¬k=9:=by omega
 unfold B6;simp only;refine Ae (T:=tb) Ad mixed Tryz.func119 rfl (by decide) (Ac rfl) rfl ?_;unfold St.init
 by_cases h:AC (c,d) (a,b)<0
 ·simp -implicitDefEqProofs[jJ,-natCast_add,-natCast_mul,h2,h9];refine Aa k1 ?_;simp -implicitDefEqProofs[jJ,-natCast_add,-natCast_mul,h];refine Af Ws Te (by rfl) ?_
  simp -implicitDefEqProofs[jJ,-natCast_add,-natCast_mul];refine Al k2 ?_;simp -implicitDefEqProofs[jJ,-natCast_add,-natCast_mul,Fct.res]
 ·simp -implicitDefEqProofs[jJ,-natCast_add,-natCast_mul,h2,h9];refine Aa k1 ?_;simp -implicitDefEqProofs[jJ,-natCast_add,-natCast_mul,h];refine Af UH Pp (by rfl) ?_
  simp -implicitDefEqProofs[jJ,-natCast_add,-natCast_mul];refine Al k3 ?_;simp -implicitDefEqProofs[jJ,-natCast_add,-natCast_mul,Fct.res]
theorem X5(l:List Int)(neg:Bool)(abs den:List Nat)(a b c d:Int)(ha:0≤a∧a<40)(hb:0≤b∧b<40)(hc:0≤c∧c<40)(hd:0≤d∧d<40):
  CallsF Tryz.prog 119 [.agg [.int .i64 2,intsD l,.bool neg,Ab abs,Ab den],.agg [.int .i64 a,.int .i64 b],.agg [.int .i64 c,.int .i64 d]] (DX (a,b) (c,d)).res:=by
 have k0:=YJ a b c d;have k1:=CF c d a b;have k2:=Ik c d a b;have k3:=Ik a b c d;have srt:=fun x y z=>UT [x,y,z] (by simp)
 unfold DX;unfold Kl at k0;simp only at k0 ⊢;by_cases h1:c=a∨d=a
 ·have h1':a=c∨a=d:=by omega
  rw[if_pos h1]
  rw[if_pos h1']at k0
  have s:CallsF Tryz.prog 116 [.c (.slice 3 [.int .i64 a,.int .i64 (a+b - a),.int .i64 (c+d - a)])] _:=srt a (a+b - a) (c+d - a);refine Ae (T:=tb) Ad mixed Tryz.func119 rfl (by decide) (Ac rfl) rfl ?_;unfold St.init
  simp -implicitDefEqProofs[jJ,-natCast_add,-natCast_mul];refine Aa k0 ?_;simp -implicitDefEqProofs[jJ,-natCast_add,-natCast_mul];refine⟨by omega,by omega,by omega,by omega,?_⟩
  refine Aa s ?_;simp -implicitDefEqProofs[jJ,-natCast_add,-natCast_mul,Fct.res,Dg]
 ·have h1': ¬(a=c∨a=d):=by omega
  rw[if_neg h1]
  rw[if_neg h1']at k0
  by_cases h2:c=b∨d=b
  ·have h2':b=c∨b=d:=by omega
   rw[if_pos h2]
   rw[if_pos h2']at k0
   have s:CallsF Tryz.prog 116 [.c (.slice 3 [.int .i64 b,.int .i64 a,.int .i64 (c+d - b)])] _:=srt b a (c+d - b);rw[Lw];refine Ae (T:=tb) Ad mixed Tryz.func119 rfl (by decide) (Ac rfl) rfl ?_;unfold St.init
   simp -implicitDefEqProofs[jJ,-natCast_add,-natCast_mul];refine Aa k0 ?_;simp -implicitDefEqProofs[jJ,-natCast_add,-natCast_mul];refine⟨by omega,by omega,by omega,by omega,?_⟩
   refine Aa s ?_;simp -implicitDefEqProofs[jJ,-natCast_add,-natCast_mul,Fct.res,Dg]
  ·have h2': ¬(b=c∨b=d):=by omega
   rw[if_neg h2]
   rw[if_neg h2']at k0
   unfold B6;refine Ae (T:=tb) Ad mixed Tryz.func119 rfl (by decide) (Ac rfl) rfl ?_;unfold St.init
   by_cases h:AC (c,d) (a,b)<0
   ·simp -implicitDefEqProofs[jJ,-natCast_add,-natCast_mul];refine Aa k0 ?_;simp -implicitDefEqProofs[jJ,-natCast_add,-natCast_mul];refine Aa k1 ?_;simp -implicitDefEqProofs[jJ,-natCast_add,-natCast_mul,h];refine Af Ws Te (by rfl) ?_
    simp -implicitDefEqProofs[jJ,-natCast_add,-natCast_mul];refine Al k2 ?_;simp -implicitDefEqProofs[jJ,-natCast_add,-natCast_mul,Fct.res]
   ·simp -implicitDefEqProofs[jJ,-natCast_add,-natCast_mul];refine Aa k0 ?_;simp -implicitDefEqProofs[jJ,-natCast_add,-natCast_mul];refine Aa k1 ?_;simp -implicitDefEqProofs[jJ,-natCast_add,-natCast_mul,h];refine Af UH Pp (by rfl) ?_
    simp -implicitDefEqProofs[jJ,-natCast_add,-natCast_mul];refine Al k3 ?_;simp -implicitDefEqProofs[jJ,-natCast_add,-natCast_mul,Fct.res]
theorem Rw(neg:Bool)(m e:Nat)(hm:m<18446744073709551616)(he:e<18446744073709551616)(e0:e≠0)(hg:Nat.gcd m e=1):CallsF Tryz.prog 27 [.agg [.bool neg,Ab (limbs m),Ab (limbs e)],.agg [.bool false,Ab (limbs 1),Ab (limbs 1)]] (.u (.c (.d (.bool (decide (toZ neg m=e)))))):=by
 have k:=TO neg false m e 1 1 (by omega) (by omega) e0 hg (by omega) (by omega) (by omega) (by decide)
 have e1:(toZ neg m*(1:Nat)=toZ false 1*(e:Int))=(toZ neg m=e):=by simp[toZ]
 simpa only[e1]using k
theorem jbp(l:List Int)(neg:Bool)(m e:Nat)(a b c d:Int)(hm:m<18446744073709551616)(he:e<18446744073709551616)(e0:e≠0)(hg:Nat.gcd m e=1):
  CallsF Tryz.prog 119 [.agg [.int .i64 9,intsD l,.bool neg,Ab (limbs m),Ab (limbs e)],.agg [.int .i64 a,.int .i64 b],.agg [.int .i64 c,.int .i64 d]] (Cr neg m e (a,b) (c,d)).res:=by
 have k1:=CF c d a b;have k2:=Ik c d a b;have k3:=Ik a b c d;have k4:=Rw neg m e hm he e0 hg;have k5:=GZ 1 (by omega)
 have k6:=Wt 4 [] false [] [] a b c d (.inr rfl);have k7:=OB neg m e (by omega) (by omega) e0 hg
 have k8:=Lj neg m e (by omega) (by omega) e0 hg
 have k9:=jaV neg m e hm he e0 hg (decide (a=c)&&decide (b=d));unfold Cr;simp only[Prod.mk.injEq];clear hm he e0 hg;refine Ae (T:=tb) Ad mixed Tryz.func119 rfl (by decide) (Ac rfl) rfl ?_;unfold St.init
 by_cases h1:toZ neg m=e
 ·rw[if_pos h1]
  simp -implicitDefEqProofs[jJ,-natCast_add,-natCast_mul];refine Af IF JP (by rfl) ?_
  simp -implicitDefEqProofs[jJ,-natCast_add,-natCast_mul];refine Al k5 ?_;simp -implicitDefEqProofs[jJ,-natCast_add,-natCast_mul];refine Aa k4 ?_;simp -implicitDefEqProofs[jJ,-natCast_add,-natCast_mul,h1];refine Aa k6 ?_;simp -implicitDefEqProofs[jJ,-natCast_add,-natCast_mul,Fct.res]
 ·rw[if_neg h1]
  by_cases h2:AC (c,d) (a,b)<0
  ·by_cases m0:m=0
   ·subst m0;rw[if_neg (by simp)]at k9
    simp -implicitDefEqProofs[jJ,-natCast_add,-natCast_mul];refine Af IF JP (by rfl) ?_
    simp -implicitDefEqProofs[jJ,-natCast_add,-natCast_mul];refine Al k5 ?_;simp -implicitDefEqProofs[jJ,-natCast_add,-natCast_mul];refine Aa k4 ?_;simp -implicitDefEqProofs[jJ,-natCast_add,-natCast_mul,h1];refine Aa k1 ?_;simp -implicitDefEqProofs[jJ,-natCast_add,-natCast_mul,h2];refine Aa k7 ?_;simp -implicitDefEqProofs[jJ,-natCast_add,-natCast_mul,EG];refine Af Nz Ow (by rfl) ?_
    simp -implicitDefEqProofs[jJ,-natCast_add,-natCast_mul];refine Al k3 ?_;simp -implicitDefEqProofs[jJ,-natCast_add,-natCast_mul];refine Al k9 ?_;simp -implicitDefEqProofs[jJ,-natCast_add,-natCast_mul,Fct.res]
   ·rw[if_neg m0]at k8
    simp -implicitDefEqProofs[jJ,-natCast_add,-natCast_mul];refine Af IF JP (by rfl) ?_
    simp -implicitDefEqProofs[jJ,-natCast_add,-natCast_mul];refine Al k5 ?_;simp -implicitDefEqProofs[jJ,-natCast_add,-natCast_mul];refine Aa k4 ?_;simp -implicitDefEqProofs[jJ,-natCast_add,-natCast_mul,h1];refine Aa k1 ?_;simp -implicitDefEqProofs[jJ,-natCast_add,-natCast_mul,h2];refine Aa k7 ?_;simp -implicitDefEqProofs[jJ,-natCast_add,-natCast_mul,EG,m0];refine Af (Aj [0,0,2,7,15,31,31,0,191,511]) [.any [] [9] [⟨0,[],[9],[9],[]⟩,⟨0,[3],[9],[9],[]⟩,⟨0,[61],[9],[9],[]⟩,⟨0,[60,62],[9],[9],[]⟩,⟨0,[63],[9],[9],[]⟩,⟨0,[59],[9],[9],[]⟩,⟨0,[59],[9],[9],[]⟩,⟨1,[],[],[],[]⟩,⟨2,[9,64],[],[],[9]⟩],.one] (by rfl) ?_
    simp -implicitDefEqProofs[jJ,-natCast_add,-natCast_mul];refine Al k5 ?_;simp -implicitDefEqProofs[jJ,-natCast_add,-natCast_mul];refine Al k8 ?_;simp -implicitDefEqProofs[jJ,-natCast_add,-natCast_mul];refine Af (Aj [0,1,0,0,12,28,0,127,255]) [.any [] [70] [⟨0,[3],[],[70],[]⟩,⟨0,[66],[],[70],[]⟩,⟨0,[5],[],[70],[]⟩,⟨0,[4],[],[70],[]⟩,⟨4,[68,69],[],[],[]⟩,⟨0,[70],[],[],[]⟩,⟨0,[9],[],[70],[]⟩],.one,.one] (by rfl) ?_
    simp -implicitDefEqProofs[jJ,-natCast_add,-natCast_mul];refine Al k2 ?_;simp -implicitDefEqProofs[jJ,-natCast_add,-natCast_mul,Fct.res]
  ·rw[if_neg (fun h=>h2 h.2)]
   by_cases h3:m≠0∧(a=c∧b=d)∧Az (toZ neg e*e) (toZ neg m*m)<0
   ·obtain⟨m0,⟨rfl,rfl⟩,h4⟩:=h3
    rw[if_pos ⟨m0,⟨rfl,rfl⟩,h4⟩]
    rw[if_pos ⟨by simp,m0,h4⟩]at k9
    simp -implicitDefEqProofs[jJ,-natCast_add,-natCast_mul];refine Af IF JP (by rfl) ?_
    simp -implicitDefEqProofs[jJ,-natCast_add,-natCast_mul];refine Al k5 ?_;simp -implicitDefEqProofs[jJ,-natCast_add,-natCast_mul];refine Aa k4 ?_;simp -implicitDefEqProofs[jJ,-natCast_add,-natCast_mul,h1];refine Aa k1 ?_;simp -implicitDefEqProofs[jJ,-natCast_add,-natCast_mul,h2];refine Af Nz Ow (by rfl) ?_
    simp -implicitDefEqProofs[jJ,-natCast_add,-natCast_mul];refine Al k3 ?_;simp -implicitDefEqProofs[jJ,-natCast_add,-natCast_mul];simp only[decide_true,Bool.and_true]at k9;refine Al k9 ?_;simp -implicitDefEqProofs[jJ,-natCast_add,-natCast_mul,Fct.res]
   ·rw[if_neg h3]
    rw[if_neg (fun h=>h3 ⟨h.2.1,by simpa using h.1,h.2.2⟩)]at k9
    simp -implicitDefEqProofs[jJ,-natCast_add,-natCast_mul];refine Af IF JP (by rfl) ?_
    simp -implicitDefEqProofs[jJ,-natCast_add,-natCast_mul];refine Al k5 ?_;simp -implicitDefEqProofs[jJ,-natCast_add,-natCast_mul];refine Aa k4 ?_;simp -implicitDefEqProofs[jJ,-natCast_add,-natCast_mul,h1];refine Aa k1 ?_;simp -implicitDefEqProofs[jJ,-natCast_add,-natCast_mul,h2];refine Af Nz Ow (by rfl) ?_
    simp -implicitDefEqProofs[jJ,-natCast_add,-natCast_mul];refine Al k3 ?_;simp -implicitDefEqProofs[jJ,-natCast_add,-natCast_mul];refine Al k9 ?_;simp -implicitDefEqProofs[jJ,-natCast_add,-natCast_mul,Fct.res]
theorem jbA(a b c d e f g h:Int)(h1:AC (g,h) (a,b)<0)(h2:AC (e,f) (c,d)<0):
  CallsF Tryz.prog 118 [.agg [.int .i64 a,.int .i64 b],.agg [.int .i64 c,.int .i64 d],.agg [.int .i64 e,.int .i64 f],.agg [.int .i64 g,.int .i64 h]] (Ci (a,b) (c,d) (e,f) (g,h)).res:=by
 have b1:=CF g h a b;have b2:=CF e f c d;have s1:srt2 (a,b) (g,h)=((g,h),(a,b)):=by unfold srt2;rw[if_pos h1]
 have s2:srt2 (c,d) (e,f)=((e,f),(c,d)):=by unfold srt2;rw[if_pos h2]
 have b3:=CF e f g h;have b4:=CF c d a b;have r1:=Gj e f g h a b c d;have r2:=Gj g h e f c d a b;unfold Ci;rw[s1,s2];simp only[Jl];clear s1 s2;refine Ae (T:=tb) Ad mixed Tryz.func118 rfl (by decide) (Ac rfl) rfl ?_;unfold St.init
 by_cases h3:AC (e,f) (g,h)<0
 ·rw[if_pos (.inl h3)]
  simp -implicitDefEqProofs[jJ,-natCast_add,-natCast_mul];refine Aa b1 ?_;simp -implicitDefEqProofs[jJ,-natCast_add,-natCast_mul,h1];refine Aa b2 ?_;simp -implicitDefEqProofs[jJ,-natCast_add,-natCast_mul,h2];refine Aa b3 ?_;simp -implicitDefEqProofs[jJ,-natCast_add,-natCast_mul,h3];refine Aa r1 ?_;simp -implicitDefEqProofs[jJ,-natCast_add,-natCast_mul,Fct.res]
 ·by_cases h4:e=g∧f=h
  ·obtain⟨h4,h5⟩:=h4
   have hB:(decide (g=e)&&decide (h=f))=true:=by simp[h4,h5]
   by_cases h6:AC (c,d) (a,b)<0
   ·rw[if_pos (.inr ⟨by rw[h4,h5],h6⟩)]
    simp -implicitDefEqProofs[jJ,-natCast_add,-natCast_mul];refine Aa b1 ?_;simp -implicitDefEqProofs[jJ,-natCast_add,-natCast_mul,h1];refine Aa b2 ?_;simp -implicitDefEqProofs[jJ,-natCast_add,-natCast_mul,h2];refine Aa b3 ?_;simp -implicitDefEqProofs[jJ,-natCast_add,-natCast_mul,h3,hB];refine Aa b4 ?_;simp -implicitDefEqProofs[jJ,-natCast_add,-natCast_mul,h6];refine Aa r1 ?_;simp -implicitDefEqProofs[jJ,-natCast_add,-natCast_mul,Fct.res]
   ·rw[if_neg (fun q=>q.elim h3 fun q=>h6 q.2)]
    simp -implicitDefEqProofs[jJ,-natCast_add,-natCast_mul];refine Aa b1 ?_;simp -implicitDefEqProofs[jJ,-natCast_add,-natCast_mul,h1];refine Aa b2 ?_;simp -implicitDefEqProofs[jJ,-natCast_add,-natCast_mul,h2];refine Aa b3 ?_;simp -implicitDefEqProofs[jJ,-natCast_add,-natCast_mul,h3,hB];refine Aa b4 ?_;simp -implicitDefEqProofs[jJ,-natCast_add,-natCast_mul,h6];refine Aa r2 ?_;simp -implicitDefEqProofs[jJ,-natCast_add,-natCast_mul,Fct.res]
  ·have h5:(decide (g=e)&&decide (h=f))=false:=by
    simp only[Bool.and_eq_false_iff,decide_eq_false_iff_not];by_cases q:g=e
    ·exact .inr fun q2=>h4 ⟨q.symm,q2.symm⟩
    ·exact .inl q
   rw[if_neg (fun q=>q.elim h3 fun q=>h4 (by simpa using q.1))]
   simp -implicitDefEqProofs[jJ,-natCast_add,-natCast_mul];refine Aa b1 ?_;simp -implicitDefEqProofs[jJ,-natCast_add,-natCast_mul,h1];refine Aa b2 ?_;simp -implicitDefEqProofs[jJ,-natCast_add,-natCast_mul,h2];refine Aa b3 ?_;simp -implicitDefEqProofs[jJ,-natCast_add,-natCast_mul,h3,h5];refine Aa r2 ?_;simp -implicitDefEqProofs[jJ,-natCast_add,-natCast_mul,Fct.res]
theorem Zb(a b c d e f g h:Int)(h1:AC (g,h) (a,b)<0)(h2: ¬AC (e,f) (c,d)<0):
  CallsF Tryz.prog 118 [.agg [.int .i64 a,.int .i64 b],.agg [.int .i64 c,.int .i64 d],.agg [.int .i64 e,.int .i64 f],.agg [.int .i64 g,.int .i64 h]] (Ci (a,b) (c,d) (e,f) (g,h)).res:=by
 have b1:=CF g h a b;have b2:=CF e f c d;have s1:srt2 (a,b) (g,h)=((g,h),(a,b)):=by unfold srt2;rw[if_pos h1]
 have s2:srt2 (c,d) (e,f)=((c,d),(e,f)):=by unfold srt2;rw[if_neg h2]
 have b3:=CF c d g h;have b4:=CF e f a b;have r1:=Gj c d g h a b e f;have r2:=Gj g h c d e f a b;unfold Ci;rw[s1,s2];simp only[Jl];clear s1 s2;refine Ae (T:=tb) Ad mixed Tryz.func118 rfl (by decide) (Ac rfl) rfl ?_;unfold St.init
 by_cases h3:AC (c,d) (g,h)<0
 ·rw[if_pos (.inl h3)]
  simp -implicitDefEqProofs[jJ,-natCast_add,-natCast_mul];refine Aa b1 ?_;simp -implicitDefEqProofs[jJ,-natCast_add,-natCast_mul,h1];refine Aa b2 ?_;simp -implicitDefEqProofs[jJ,-natCast_add,-natCast_mul,h2];refine Aa b3 ?_;simp -implicitDefEqProofs[jJ,-natCast_add,-natCast_mul,h3];refine Aa r1 ?_;simp -implicitDefEqProofs[jJ,-natCast_add,-natCast_mul,Fct.res]
 ·by_cases h4:c=g∧d=h
  ·obtain⟨h4,h5⟩:=h4
   have hB:(decide (g=c)&&decide (h=d))=true:=by simp[h4,h5]
   by_cases h6:AC (e,f) (a,b)<0
   ·rw[if_pos (.inr ⟨by rw[h4,h5],h6⟩)]
    simp -implicitDefEqProofs[jJ,-natCast_add,-natCast_mul];refine Aa b1 ?_;simp -implicitDefEqProofs[jJ,-natCast_add,-natCast_mul,h1];refine Aa b2 ?_;simp -implicitDefEqProofs[jJ,-natCast_add,-natCast_mul,h2];refine Aa b3 ?_;simp -implicitDefEqProofs[jJ,-natCast_add,-natCast_mul,h3,hB];refine Aa b4 ?_;simp -implicitDefEqProofs[jJ,-natCast_add,-natCast_mul,h6];refine Aa r1 ?_;simp -implicitDefEqProofs[jJ,-natCast_add,-natCast_mul,Fct.res]
   ·rw[if_neg (fun q=>q.elim h3 fun q=>h6 q.2)]
    simp -implicitDefEqProofs[jJ,-natCast_add,-natCast_mul];refine Aa b1 ?_;simp -implicitDefEqProofs[jJ,-natCast_add,-natCast_mul,h1];refine Aa b2 ?_;simp -implicitDefEqProofs[jJ,-natCast_add,-natCast_mul,h2];refine Aa b3 ?_;simp -implicitDefEqProofs[jJ,-natCast_add,-natCast_mul,h3,hB];refine Aa b4 ?_;simp -implicitDefEqProofs[jJ,-natCast_add,-natCast_mul,h6];refine Aa r2 ?_;simp -implicitDefEqProofs[jJ,-natCast_add,-natCast_mul,Fct.res]
  ·have h5:(decide (g=c)&&decide (h=d))=false:=by
    simp only[Bool.and_eq_false_iff,decide_eq_false_iff_not];by_cases q:g=c
    ·exact .inr fun q2=>h4 ⟨q.symm,q2.symm⟩
    ·exact .inl q
   rw[if_neg (fun q=>q.elim h3 fun q=>h4 (by simpa using q.1))]
   simp -implicitDefEqProofs[jJ,-natCast_add,-natCast_mul];refine Aa b1 ?_;simp -implicitDefEqProofs[jJ,-natCast_add,-natCast_mul,h1];refine Aa b2 ?_;simp -implicitDefEqProofs[jJ,-natCast_add,-natCast_mul,h2];refine Aa b3 ?_;simp -implicitDefEqProofs[jJ,-natCast_add,-natCast_mul,h3,h5];refine Aa r2 ?_;simp -implicitDefEqProofs[jJ,-natCast_add,-natCast_mul,Fct.res]
theorem jbT(a b c d e f g h:Int)(h1: ¬AC (g,h) (a,b)<0)(h2:AC (e,f) (c,d)<0):
  CallsF Tryz.prog 118 [.agg [.int .i64 a,.int .i64 b],.agg [.int .i64 c,.int .i64 d],.agg [.int .i64 e,.int .i64 f],.agg [.int .i64 g,.int .i64 h]] (Ci (a,b) (c,d) (e,f) (g,h)).res:=by
 have b1:=CF g h a b;have b2:=CF e f c d;have s1:srt2 (a,b) (g,h)=((a,b),(g,h)):=by unfold srt2;rw[if_neg h1]
 have s2:srt2 (c,d) (e,f)=((e,f),(c,d)):=by unfold srt2;rw[if_pos h2]
 have b3:=CF e f a b;have b4:=CF c d g h;have r1:=Gj e f a b g h c d;have r2:=Gj a b e f c d g h;unfold Ci;rw[s1,s2];simp only[Jl];clear s1 s2;refine Ae (T:=tb) Ad mixed Tryz.func118 rfl (by decide) (Ac rfl) rfl ?_;unfold St.init
 by_cases h3:AC (e,f) (a,b)<0
 ·rw[if_pos (.inl h3)]
  simp -implicitDefEqProofs[jJ,-natCast_add,-natCast_mul];refine Aa b1 ?_;simp -implicitDefEqProofs[jJ,-natCast_add,-natCast_mul,h1];refine Aa b2 ?_;simp -implicitDefEqProofs[jJ,-natCast_add,-natCast_mul,h2];refine Aa b3 ?_;simp -implicitDefEqProofs[jJ,-natCast_add,-natCast_mul,h3];refine Aa r1 ?_;simp -implicitDefEqProofs[jJ,-natCast_add,-natCast_mul,Fct.res]
 ·by_cases h4:e=a∧f=b
  ·obtain⟨h4,h5⟩:=h4
   have hB:(decide (a=e)&&decide (b=f))=true:=by simp[h4,h5]
   by_cases h6:AC (c,d) (g,h)<0
   ·rw[if_pos (.inr ⟨by rw[h4,h5],h6⟩)]
    simp -implicitDefEqProofs[jJ,-natCast_add,-natCast_mul];refine Aa b1 ?_;simp -implicitDefEqProofs[jJ,-natCast_add,-natCast_mul,h1];refine Aa b2 ?_;simp -implicitDefEqProofs[jJ,-natCast_add,-natCast_mul,h2];refine Aa b3 ?_;simp -implicitDefEqProofs[jJ,-natCast_add,-natCast_mul,h3,hB];refine Aa b4 ?_;simp -implicitDefEqProofs[jJ,-natCast_add,-natCast_mul,h6];refine Aa r1 ?_;simp -implicitDefEqProofs[jJ,-natCast_add,-natCast_mul,Fct.res]
   ·rw[if_neg (fun q=>q.elim h3 fun q=>h6 q.2)]
    simp -implicitDefEqProofs[jJ,-natCast_add,-natCast_mul];refine Aa b1 ?_;simp -implicitDefEqProofs[jJ,-natCast_add,-natCast_mul,h1];refine Aa b2 ?_;simp -implicitDefEqProofs[jJ,-natCast_add,-natCast_mul,h2];refine Aa b3 ?_;simp -implicitDefEqProofs[jJ,-natCast_add,-natCast_mul,h3,hB];refine Aa b4 ?_;simp -implicitDefEqProofs[jJ,-natCast_add,-natCast_mul,h6];refine Aa r2 ?_;simp -implicitDefEqProofs[jJ,-natCast_add,-natCast_mul,Fct.res]
  ·have h5:(decide (a=e)&&decide (b=f))=false:=by
    simp only[Bool.and_eq_false_iff,decide_eq_false_iff_not];by_cases q:a=e
    ·exact .inr fun q2=>h4 ⟨q.symm,q2.symm⟩
    ·exact .inl q
   rw[if_neg (fun q=>q.elim h3 fun q=>h4 (by simpa using q.1))]
   simp -implicitDefEqProofs[jJ,-natCast_add,-natCast_mul];refine Aa b1 ?_;simp -implicitDefEqProofs[jJ,-natCast_add,-natCast_mul,h1];refine Aa b2 ?_;simp -implicitDefEqProofs[jJ,-natCast_add,-natCast_mul,h2];refine Aa b3 ?_;simp -implicitDefEqProofs[jJ,-natCast_add,-natCast_mul,h3,h5];refine Aa r2 ?_;simp -implicitDefEqProofs[jJ,-natCast_add,-natCast_mul,Fct.res]
theorem jeo(a b c d e f g h:Int)(h1: ¬AC (g,h) (a,b)<0)(h2: ¬AC (e,f) (c,d)<0):
  CallsF Tryz.prog 118 [.agg [.int .i64 a,.int .i64 b],.agg [.int .i64 c,.int .i64 d],.agg [.int .i64 e,.int .i64 f],.agg [.int .i64 g,.int .i64 h]] (Ci (a,b) (c,d) (e,f) (g,h)).res:=by
 have b1:=CF g h a b;have b2:=CF e f c d;have s1:srt2 (a,b) (g,h)=((a,b),(g,h)):=by unfold srt2;rw[if_neg h1]
 have s2:srt2 (c,d) (e,f)=((c,d),(e,f)):=by unfold srt2;rw[if_neg h2]
 have b3:=CF c d a b;have b4:=CF e f g h;have r1:=Gj c d a b g h e f;have r2:=Gj a b c d e f g h;unfold Ci;rw[s1,s2];simp only[Jl];clear s1 s2;refine Ae (T:=tb) Ad mixed Tryz.func118 rfl (by decide) (Ac rfl) rfl ?_;unfold St.init
 by_cases h3:AC (c,d) (a,b)<0
 ·rw[if_pos (.inl h3)]
  simp -implicitDefEqProofs[jJ,-natCast_add,-natCast_mul];refine Aa b1 ?_;simp -implicitDefEqProofs[jJ,-natCast_add,-natCast_mul,h1];refine Aa b2 ?_;simp -implicitDefEqProofs[jJ,-natCast_add,-natCast_mul,h2];refine Aa b3 ?_;simp -implicitDefEqProofs[jJ,-natCast_add,-natCast_mul,h3];refine Aa r1 ?_;simp -implicitDefEqProofs[jJ,-natCast_add,-natCast_mul,Fct.res]
 ·by_cases h4:c=a∧d=b
  ·obtain⟨h4,h5⟩:=h4
   have hB:(decide (a=c)&&decide (b=d))=true:=by simp[h4,h5]
   by_cases h6:AC (e,f) (g,h)<0
   ·rw[if_pos (.inr ⟨by rw[h4,h5],h6⟩)]
    simp -implicitDefEqProofs[jJ,-natCast_add,-natCast_mul];refine Aa b1 ?_;simp -implicitDefEqProofs[jJ,-natCast_add,-natCast_mul,h1];refine Aa b2 ?_;simp -implicitDefEqProofs[jJ,-natCast_add,-natCast_mul,h2];refine Aa b3 ?_;simp -implicitDefEqProofs[jJ,-natCast_add,-natCast_mul,h3,hB];refine Aa b4 ?_;simp -implicitDefEqProofs[jJ,-natCast_add,-natCast_mul,h6];refine Aa r1 ?_;simp -implicitDefEqProofs[jJ,-natCast_add,-natCast_mul,Fct.res]
   ·rw[if_neg (fun q=>q.elim h3 fun q=>h6 q.2)]
    simp -implicitDefEqProofs[jJ,-natCast_add,-natCast_mul];refine Aa b1 ?_;simp -implicitDefEqProofs[jJ,-natCast_add,-natCast_mul,h1];refine Aa b2 ?_;simp -implicitDefEqProofs[jJ,-natCast_add,-natCast_mul,h2];refine Aa b3 ?_;simp -implicitDefEqProofs[jJ,-natCast_add,-natCast_mul,h3,hB];refine Aa b4 ?_;simp -implicitDefEqProofs[jJ,-natCast_add,-natCast_mul,h6];refine Aa r2 ?_;simp -implicitDefEqProofs[jJ,-natCast_add,-natCast_mul,Fct.res]
  ·have h5:(decide (a=c)&&decide (b=d))=false:=by
    simp only[Bool.and_eq_false_iff,decide_eq_false_iff_not];by_cases q:a=c
    ·exact .inr fun q2=>h4 ⟨q.symm,q2.symm⟩
    ·exact .inl q
   rw[if_neg (fun q=>q.elim h3 fun q=>h4 (by simpa using q.1))]
   simp -implicitDefEqProofs[jJ,-natCast_add,-natCast_mul];refine Aa b1 ?_;simp -implicitDefEqProofs[jJ,-natCast_add,-natCast_mul,h1];refine Aa b2 ?_;simp -implicitDefEqProofs[jJ,-natCast_add,-natCast_mul,h2];refine Aa b3 ?_;simp -implicitDefEqProofs[jJ,-natCast_add,-natCast_mul,h3,h5];refine Aa r2 ?_;simp -implicitDefEqProofs[jJ,-natCast_add,-natCast_mul,Fct.res]
theorem YT(a b c d e f g h:Int):
  CallsF Tryz.prog 118 [.agg [.int .i64 a,.int .i64 b],.agg [.int .i64 c,.int .i64 d],.agg [.int .i64 e,.int .i64 f],.agg [.int .i64 g,.int .i64 h]] (Ci (a,b) (c,d) (e,f) (g,h)).res:=by
 by_cases h1:AC (g,h) (a,b)<0
 ·by_cases h2:AC (e,f) (c,d)<0
  ·exact jbA a b c d e f g h h1 h2
  ·exact Zb a b c d e f g h h1 h2
 ·by_cases h2:AC (e,f) (c,d)<0
  ·exact jbT a b c d e f g h h1 h2
  ·exact jeo a b c d e f g h h1 h2
end Go.Va
