/- a part of the proof -/
import Derived.Test.YtljdeoefpialhaaGreatDoorHbb
set_option linter.all false
set_option maxHeartbeats 4000000
set_option maxRecDepth 10000
namespace Go.Va
open Int renaming natCast_add → qA, natCast_mul → qB, natCast_emod → qC, natCast_ediv → qD, natCast_pow → qE
open List renaming reduceReplicate → qF
open Go.Proofs
def Uc:List (List Nat):=(Ah [0,0,2,6,0,30,0,64,192,0,1022,2047,4095,8191,16383])
@[simp]def OR:List Seg:=[.any [] [] (Aq [[5],[3],[20],[21],[5],[22,23],[3],[25],[26],[5],[27,28]]),.one,.one,.one,.one]
def T8:List (List Nat):=(Ah [0,1,3,7,15,31,7,71,199,511,1023,2047])
@[simp]def SA:List Seg:=[.one,.one,.one,.any [] [] (Aq [[3,25],[26,25],[27,25],[3,25],[29,25],[30,25]]),.one,.one,.one]
def TX:List (List Nat):=(Ah [0,1,3,7,15,31,7,71,199,511,1023,2047,4095,4095,12287,32767,65535,131071])
@[simp]def RF:List Seg:=[.one,.one,.one,.any [] [] (Aq [[3,48],[49,48],[50,48],[3,48],[52,48],[53,48]]),.one,.one,.one,.any [] [] (Aq [[4,57],[1,57],[59,57]]),.one,.one,.one]
theorem La(k:Int)(l:List Int)(neg:Bool)(abs den:List Nat)(h0:l≠[])(hl:l.length≤1099511627776):CallsF Tryz.prog 123 [.agg [.int .i64 k,intsD l,.bool neg,Ad abs,Ad den]] (Fct.res ⟨k,DX l,false,[],[]⟩):=by
 refine cO Tryz.func123 rfl ?_;have k1:=Z9 l hl h0;have k2:=Yb 6 l true h0 hl;have e:=Ky l;simp (maxSteps:=2000000) -implicitDefEqProofs[jJ,-qA,-qB];refine Ac k1 ?_
 simp (maxSteps:=2000000) -implicitDefEqProofs[jJ,-qA,-qB];refine .inr (.inl (Hn k2 (by simp[DB,U.all,C.id?]) (by simp[lk]) ?_))
 simp (maxSteps:=2000000) -implicitDefEqProofs[jJ,-qA,-qB,St.backW,Fct.res,e];rw[←e,Ba (by simp)]
 exact⟨rfl,rfl⟩
theorem jfK(k a b c:Int)(neg:Bool)(abs den:List Nat):CallsF Tryz.prog 118 [.agg [.int .i64 k,intsD [a,b,c],.bool neg,Ad abs,Ad den]] (Fct.res ⟨k,[a,lo b c,hi b c],false,[],[]⟩):=by
 refine cO Tryz.func118 rfl ?_;have k1:=Pn b c;simp (maxSteps:=2000000) -implicitDefEqProofs[jJ,-qA,-qB];refine AA (Ah [0,1,3,7,0,16,48,112,255,0,1023]) [.any [] [3] [⟨0,[1],[3],[3],[]⟩,⟨0,[4],[3],[3],[]⟩,⟨0,[5],[3],[3],[]⟩,⟨0,[6],[3],[3],[]⟩,⟨0,[1],[3],[3],[]⟩,⟨0,[8],[3],[3],[]⟩,⟨0,[9],[3],[3],[]⟩,⟨0,[10],[3],[3],[]⟩,⟨0,[7,11],[3],[3],[]⟩,⟨1,[],[],[],[]⟩],.one] (by rfl) ?_
 simp (maxSteps:=2000000) -implicitDefEqProofs[jJ,-qA,-qB,i64];refine Ae k1 ?_;simp (maxSteps:=2000000) -implicitDefEqProofs[jJ,-qA,-qB];refine AA (Ah [0,1,0,4,12,28,0,64,0,256,1020,2047,4095]) [.any [] [23] ([⟨0,[1],[23],[23],[]⟩,⟨0,[13],[23],[23],[]⟩]++AG [23] [[1],[15],[16],[17],[3],[19],[3],[21]]++[⟨1,[18,20,22],[],[],[]⟩]),.one,.one] (by rfl) ?_
 simp (maxSteps:=2000000) -implicitDefEqProofs[jJ,-qA,-qB,i64,Fct.res];exact⟨rfl,rfl⟩
def HD(p q:Int×Int):Fct:=
 if q.1=p.1∨q.2=p.1 then ⟨1,DX [p.1,oth p.1 p.2 p.1,oth q.1 q.2 p.1],false,[],[]⟩
 else if q.1=p.2∨q.2=p.2 then ⟨1,DX [p.2,oth p.1 p.2 p.2,oth q.1 q.2 p.2],false,[],[]⟩
 else D9 2 p q
theorem jhA(a b c d:Int)(neg:Bool)(abs den:List Nat)(ha:0≤a∧a<40)(hb:0≤b∧b<40)(hc:0≤c∧c<40)(hd:0≤d∧d<40):
  CallsF Tryz.prog 119 [.agg [.int .i64 2,intsD [a,b,c,d],.bool neg,Ad abs,Ad den]] (HD (A7 a b) (A7 c d)).res:=by
 refine cO Tryz.func119 rfl ?_;have k1:=I3 2 a b c d neg abs den;have k2:=LI 2 a b c d neg abs den;have l1:0≤lo a b∧lo a b<40:=by unfold lo;split<;>omega
 have l2:0≤hi a b∧hi a b<40:=by unfold hi;split<;>omega
 have l3:0≤lo c d∧lo c d<40:=by unfold lo;split<;>omega
 have l4:0≤hi c d∧hi c d<40:=by unfold hi;split<;>omega
 unfold HD;unfold A7 at k2 ⊢;simp only;generalize intsD [a,b,c,d]=l at*;generalize lo c d=x at*;generalize hi c d=y at*;generalize lo a b=z at*;generalize hi a b=t at*;have h1:=PD x y z;have h2:=PD x y t;have o1:=fun p (hp:0≤p∧p<40)=>SX z t p (by omega) (by omega) (by omega)
 have o2:=fun p (hp:0≤p∧p<40)=>SX x y p (by omega) (by omega) (by omega)
 simp (maxSteps:=2000000) -implicitDefEqProofs[jJ,-qA,-qB];refine Ac k1 ?_;simp (maxSteps:=2000000) -implicitDefEqProofs[jJ,-qA,-qB];refine AV (fun i:Nat=>⟨[(11,vI .i64 i),(10,.u (.agg [.d (.int .i64 z),.d (.int .i64 t)])),(3,vC (.sl 7 0 2)),(2,vC (.ptr 2 0)),(1,vC (.ptr 1 0))],[(7,.row 2 [.int .i64 z,.int .i64 t,.int .i64 x,.int .i64 y] true),(2,.box [.d (.int .i64 0),.nl,.d (.bool false),.nl,.nl]),(1,.box [.d (.int .i64 2),.d l,.d (.bool neg),.d (Ad abs),.d (Ad den)])]⟩)
  (fun i=>i≤2∧(0<i→ ¬(x=z∨y=z))∧(1<i→ ¬(x=t∨y=t))) (fun i=>2 - i) 0 (by simp) (by simp) ?_
 rintro i ⟨hi,g1,g2⟩
 match i,hi with
 |0,_=>
  by_cases h:x=z∨y=z
  ·have hh:(decide (x=z)||decide (y=z))=true:=by simpa using h
   rw[hh]at h1
   rw[if_pos h]
   have k3:=La 1 [z,oth z t z,oth x y z] false [] [] (by simp) (by simp)
   simp (maxSteps:=2000000) -implicitDefEqProofs[jJ,-qA,-qB];refine Ac h1 ?_;simp (maxSteps:=2000000) -implicitDefEqProofs[jJ,-qA,-qB];refine AA Uc OR (by rfl) ?_
   simp (maxSteps:=2000000) -implicitDefEqProofs[jJ,-qA,-qB];refine Ae (o1 z l1) ?_;simp (maxSteps:=2000000) -implicitDefEqProofs[jJ,-qA,-qB];refine Ae (o2 z l1) ?_;simp (maxSteps:=2000000) -implicitDefEqProofs[jJ,-qA,-qB];refine Ac k3 ?_;simp (maxSteps:=2000000) -implicitDefEqProofs[jJ,-qA,-qB,Fct.res]
  ·have hh:(decide (x=z)||decide (y=z))=false:=by simpa using h
   rw[hh]at h1
   rw[if_neg h]
   simp (maxSteps:=2000000) -implicitDefEqProofs[jJ,-qA,-qB];refine Ac h1 ?_;simp (maxSteps:=2000000) -implicitDefEqProofs[jJ,-qA,-qB]
   simpa using h
 |1,_=>
  have g1:=g1 (by omega)
  rw[if_neg g1]
  by_cases h:x=t∨y=t
  ·have hh:(decide (x=t)||decide (y=t))=true:=by simpa using h
   rw[hh]at h2
   rw[if_pos h]
   have k3:=La 1 [t,oth z t t,oth x y t] false [] [] (by simp) (by simp)
   simp (maxSteps:=2000000) -implicitDefEqProofs[jJ,-qA,-qB];refine Ac h2 ?_;simp (maxSteps:=2000000) -implicitDefEqProofs[jJ,-qA,-qB];refine AA Uc OR (by rfl) ?_
   simp (maxSteps:=2000000) -implicitDefEqProofs[jJ,-qA,-qB];refine Ae (o1 t l2) ?_;simp (maxSteps:=2000000) -implicitDefEqProofs[jJ,-qA,-qB];refine Ae (o2 t l2) ?_;simp (maxSteps:=2000000) -implicitDefEqProofs[jJ,-qA,-qB];refine Ac k3 ?_;simp (maxSteps:=2000000) -implicitDefEqProofs[jJ,-qA,-qB,Fct.res]
  ·have hh:(decide (x=t)||decide (y=t))=false:=by simpa using h
   rw[hh]at h2
   rw[if_neg h]
   simp (maxSteps:=2000000) -implicitDefEqProofs[jJ,-qA,-qB];refine Ac h2 ?_;simp (maxSteps:=2000000) -implicitDefEqProofs[jJ,-qA,-qB];exact⟨by simpa using g1,by simpa using h⟩
 |2,_=>
  rw[if_neg (g1 (by omega)),if_neg (g2 (by omega))]
  simp (maxSteps:=2000000) -implicitDefEqProofs[jJ,-qA,-qB];refine Ac k2 ?_;simp (maxSteps:=2000000) -implicitDefEqProofs[jJ,-qA,-qB,Fct.res]
def GK(neg:Bool)(m e:Nat)(p q:Int×Int):Fct:=
 if toZ neg m=e then D9 4 p q
 else if m≠0∧A6 q p<0 then ⟨9,[q.1,q.2,p.1,p.2],neg,limbs e,limbs m⟩
 else if m≠0∧p=q∧cmpZ (toZ neg e*e) (toZ neg m*m)<0 then ⟨9,[p.1,p.2,q.1,q.2],neg,limbs e,limbs m⟩
 else ⟨9,[p.1,p.2,q.1,q.2],neg,limbs m,limbs e⟩
theorem Rz(neg:Bool)(m e:Nat)(hm:m<340282366920938463463374607431768211456)(he:e<340282366920938463463374607431768211456)(e0:e≠0):CallsF Tryz.prog 81 [.agg [.bool neg,Ad (limbs m),Ad (limbs e)],.agg [.bool false,Ad (limbs 1),Ad (limbs 1)]] (.u (.c (.d (.bool (decide (toZ neg m=e)))))):=by
 have lm:=BP (n:=m) (by omega)
 have le:=BP (n:=e) (by omega)
 have k:=Oh neg false (limbs m) (limbs e) (limbs 1) (limbs 1) (Aw _) (by omega) (Aw _) (by omega) (Aw _) (by decide) (Aw _) (by decide) (by rw[Az];exact e0) (by rw[Az];omega)
 rw[Az,Az,Az]at k
 have e1:(toZ neg m*(1:Nat)=toZ false 1*(e:Int))=(toZ neg m=e):=by simp[toZ]
 simpa only[e1]using k
theorem jev(neg:Bool)(m e:Nat)(hm:m<340282366920938463463374607431768211456)(he:e<340282366920938463463374607431768211456)(m0:m≠0)(e0:e≠0):CallsF Tryz.prog 70 [.agg [.bool neg,Ad (limbs e),Ad (limbs m)],.agg [.bool neg,Ad (limbs m),Ad (limbs e)]] (.u (.c (.d (.int .i64 (cmpZ (toZ neg e*e) (toZ neg m*m)))))):=by
 have lm:=BP (n:=m) (by omega)
 have le:=BP (n:=e) (by omega)
 have k:=UJ neg neg (limbs e) (limbs m) (limbs m) (limbs e) (Aw _) (by omega) (Aw _) (by omega) (Aw _) (by omega) (Aw _) (by omega) (by rw[Az];exact m0) (by rw[Az];exact e0)
 rw[Az,Az]at k
 exact k
theorem jav(a b c d:Int)(neg:Bool)(m e:Nat)(hm:m<340282366920938463463374607431768211456)(he:e<340282366920938463463374607431768211456)(e0:e≠0)(hg:Nat.gcd m e=1):
  CallsF Tryz.prog 121 [.agg [.int .i64 9,intsD [a,b,c,d],.bool neg,Ad (limbs m),Ad (limbs e)]] (GK neg m e (A7 a b) (A7 c d)).res:=by
 refine cO Tryz.func121 rfl ?_;have k1:=I3 9 a b c d neg (limbs m) (limbs e);have k2:=LI 4 a b c d false [] [];have k3:=Rz neg m e hm he e0;have k4:=KS 1 (by omega)
 have k5:=jem neg m e (by omega) (by omega) e0 hg
 have k6:=fun m0=>jev neg m e hm he m0 e0
 unfold GK;unfold A7 at k2 ⊢;simp only;generalize intsD [a,b,c,d]=l at*;generalize lo c d=x at*;generalize hi c d=y at*;generalize lo a b=z at*;generalize hi a b=t at*;have k7:=Hw x y z t;have k8:=IB 9 x y z t neg (limbs e) (limbs m);have k9:=IB 9 z t x y neg (limbs e) (limbs m);have k10:=IB 9 z t x y neg (limbs m) (limbs e);simp (maxSteps:=2000000) -implicitDefEqProofs[jJ,-qA,-qB];refine AA (Ah [0,1,0,7]) [.any [] [] (Aq [[1],[6],[]]),.one] (by rfl) ?_
 simp (maxSteps:=2000000) -implicitDefEqProofs[jJ,-qA,-qB];refine Ae k4 ?_;simp (maxSteps:=2000000) -implicitDefEqProofs[jJ,-qA,-qB];refine Ac k3 ?_;by_cases h1:toZ neg m=e
 ·rw[if_pos h1]
  simp (maxSteps:=2000000) -implicitDefEqProofs[jJ,-qA,-qB,h1];refine Ac k2 ?_;simp (maxSteps:=2000000) -implicitDefEqProofs[jJ,-qA,-qB,Fct.res]
 ·rw[if_neg h1]
  simp (maxSteps:=2000000) -implicitDefEqProofs[jJ,-qA,-qB,h1];refine Ac k1 ?_;simp (maxSteps:=2000000) -implicitDefEqProofs[jJ,-qA,-qB];refine AA (Ah [0,0,2,7,15,31,31,0,191,511]) [.any [] [4] [⟨0,[],[4],[4],[]⟩,⟨0,[1],[4],[4],[]⟩,⟨0,[18],[4],[4],[]⟩,⟨0,[17,19],[4],[4],[]⟩,⟨0,[20],[4],[4],[]⟩,⟨0,[16],[4],[4],[]⟩,⟨0,[16],[4],[4],[]⟩,⟨1,[],[],[],[]⟩,⟨2,[4,21],[],[],[4]⟩],.one] (by rfl) ?_
  simp (maxSteps:=2000000) -implicitDefEqProofs[jJ,-qA,-qB];refine Ae k4 ?_;simp (maxSteps:=2000000) -implicitDefEqProofs[jJ,-qA,-qB];refine Ae k5 ?_;by_cases m0:m=0
  ·simp (maxSteps:=2000000) -implicitDefEqProofs[jJ,-qA,-qB,m0];refine AA T8 SA (by rfl) ?_
   simp (maxSteps:=2000000) -implicitDefEqProofs[jJ,-qA,-qB];refine AA TX RF (by rfl) ?_
   simp (maxSteps:=2000000) -implicitDefEqProofs[jJ,-qA,-qB];subst m0
   (first|refine Ac k10 ?_|refine Ae k10 ?_)
   simp (maxSteps:=2000000) -implicitDefEqProofs[jJ,-qA,-qB,Fct.res]
  ·have k6:=k6 m0;simp (maxSteps:=2000000) -implicitDefEqProofs[jJ,-qA,-qB,m0];refine AA T8 SA (by rfl) ?_
   simp (maxSteps:=2000000) -implicitDefEqProofs[jJ,-qA,-qB];refine Ac k7 ?_;by_cases h2:A6 (x,y) (z,t)<0
   ·simp (maxSteps:=2000000) -implicitDefEqProofs[jJ,-qA,-qB,h2];refine AA (Ah [0,1,0,0,8,24,0,64,192,504,1023,2047]) [.any [] [44] ([⟨0,[1],[44],[44],[]⟩,⟨0,[35],[44],[44],[]⟩,⟨0,[4],[44],[44],[]⟩]++AG [44] [[3],[38],[39],[3],[41],[42]]++[⟨1,[40,43],[],[],[]⟩]),.one,.one] (by rfl) ?_
    simp (maxSteps:=2000000) -implicitDefEqProofs[jJ,-qA,-qB];refine Ac k8 ?_;simp (maxSteps:=2000000) -implicitDefEqProofs[jJ,-qA,-qB,Fct.res]
   ·simp (maxSteps:=2000000) -implicitDefEqProofs[jJ,-qA,-qB,h2];refine AA TX RF (by rfl) ?_
    by_cases h3:z=x
    ·by_cases h4:t=y
     ·by_cases h5:cmpZ (toZ neg e*e) (toZ neg m*m)<0
      ·simp (maxSteps:=2000000) -implicitDefEqProofs[jJ,-qA,-qB,h3,h4];refine Ac k6 ?_;simp (maxSteps:=2000000) -implicitDefEqProofs[jJ,-qA,-qB,h5];subst h3 h4;refine Ac k9 ?_;simp (maxSteps:=2000000) -implicitDefEqProofs[jJ,-qA,-qB,Fct.res]
      ·simp (maxSteps:=2000000) -implicitDefEqProofs[jJ,-qA,-qB,h3,h4];refine Ac k6 ?_;simp (maxSteps:=2000000) -implicitDefEqProofs[jJ,-qA,-qB,h5];subst h3 h4;refine Ac k10 ?_;simp (maxSteps:=2000000) -implicitDefEqProofs[jJ,-qA,-qB,Fct.res]
     ·simp (maxSteps:=2000000) -implicitDefEqProofs[jJ,-qA,-qB,h3,h4];subst h3;refine Ac k10 ?_;simp (maxSteps:=2000000) -implicitDefEqProofs[jJ,-qA,-qB,Fct.res]
    ·simp (maxSteps:=2000000) -implicitDefEqProofs[jJ,-qA,-qB,h3];refine Ac k10 ?_;simp (maxSteps:=2000000) -implicitDefEqProofs[jJ,-qA,-qB,Fct.res]
def Kg:List (List Nat):=(Ah [0,1,3,7,0,16,48,112,255,511])
@[simp]def J2:List Seg:=[.any [] [] (Aq [[7],[30],[31],[32],[7],[34],[35],[36]]),.one,.one]
def srt2(p q:Int×Int):(Int×Int)×(Int×Int):=if A6 q p<0 then (q,p) else (p,q)
def Dn(u v w z:Int×Int):Fct:=
 if BV [A6 (srt2 v w).1 (srt2 u z).1,A6 (srt2 v w).2 (srt2 u z).2]<0 then ⟨7,[(srt2 v w).1.1,(srt2 v w).1.2,(srt2 u z).1.1,(srt2 u z).1.2,(srt2 u z).2.1,(srt2 u z).2.2,(srt2 v w).2.1,(srt2 v w).2.2],false,[],[]⟩
 else ⟨7,[(srt2 u z).1.1,(srt2 u z).1.2,(srt2 v w).1.1,(srt2 v w).1.2,(srt2 v w).2.1,(srt2 v w).2.2,(srt2 u z).2.1,(srt2 u z).2.2],false,[],[]⟩
def DQ(p:(Int×Int)×(Int×Int)):List C:=[.d (.int .i64 p.1.1),.d (.int .i64 p.1.2),.d (.int .i64 p.2.1),.d (.int .i64 p.2.2)]
theorem VQ(a b c d e f g h:Int)(neg:Bool)(abs den:List Nat):
  CallsF Tryz.prog 122 [.agg [.int .i64 7,intsD [a,b,c,d,e,f,g,h],.bool neg,Ad abs,Ad den]] (Dn (A7 a b) (A7 c d) (A7 e f) (A7 g h)).res:=by
 refine cO Tryz.func122 rfl ?_;have k1:=PO 7 a b c d e f g h neg abs den;unfold Dn A7;generalize intsD [a,b,c,d,e,f,g,h]=l at*;generalize lo a b=a1 at*;generalize hi a b=b1 at*;generalize lo c d=c1 at*;generalize hi c d=d1 at*;generalize lo e f=e1 at*;generalize hi e f=f1 at*;generalize lo g h=g1 at*;generalize hi g h=h1 at*;clear a b c d e f g h;have m1:=Hw g1 h1 a1 b1;have m2:=Hw e1 f1 c1 d1;have s1:srt2 (a1,b1) (g1,h1)=if A6 (g1,h1) (a1,b1)<0 then ((g1,h1),(a1,b1)) else ((a1,b1),(g1,h1)):=rfl;have s2:srt2 (c1,d1) (e1,f1)=if A6 (e1,f1) (c1,d1)<0 then ((e1,f1),(c1,d1)) else ((c1,d1),(e1,f1)):=rfl;generalize srt2 (a1,b1) (g1,h1)=ou at*;generalize srt2 (c1,d1) (e1,f1)=iu at*;simp -implicitDefEqProofs[jJ,-qA,-qB];refine Ac k1 ?_
 simp -implicitDefEqProofs[jJ,-qA,-qB];refine AA (Ah [0,1,3,0,8,24,63,0,128,384,0,1024,3072,8064,0,0,57343,131071]) [.any [] [4,5] [⟨0,[3],[4,5],[4,5],[]⟩,⟨0,[10],[4,5],[4,5],[]⟩,⟨0,[11],[4,5],[4,5],[]⟩,⟨0,[3],[4,5],[4,5],[]⟩,⟨0,[13],[4,5],[4,5],[]⟩,⟨0,[14],[4,5],[4,5],[]⟩,⟨0,[12,15],[4,5],[4,5],[]⟩,⟨0,[3],[4,5],[4,5],[]⟩,⟨0,[17],[4,5],[4,5],[]⟩,⟨0,[18],[4,5],[4,5],[]⟩,⟨0,[3],[4,5],[4,5],[]⟩,⟨0,[20],[4,5],[4,5],[]⟩,⟨0,[21],[4,5],[4,5],[]⟩,⟨0,[19,22],[4,5],[4,5],[]⟩,⟨1,[],[5],[5],[]⟩,⟨1,[],[4],[4],[]⟩,⟨2,[4,16],[],[],[4]⟩],.one] (by rfl) ?_
 simp -implicitDefEqProofs[jJ,-qA,-qB];refine AV (fun i:Nat=>⟨[(26,vI .i64 i),(25,vI .i64 2),(24,vC (.sl 24 0 2)),(5,vC (.ptr 5 0)),(4,vC (.ptr 4 0)),(2,vC (.ptr 2 0)),(1,vC (.ptr 1 0))],
  [(24,.box [.ptr 4 0,.ptr 5 0]),(5,.box (match i with|0=>DQ ((c1,d1),(e1,f1))|1=>DQ ((c1,d1),(e1,f1))|_=>DQ iu)),(4,.box (match i with|0=>DQ ((a1,b1),(g1,h1))|_=>DQ ou)),
   (2,.box [.d (.int .i64 0),.nl,.d (.bool false),.nl,.nl]),(1,.box [.d (.int .i64 7),.d l,.d (.bool neg),.d (Ad abs),.d (Ad den)])]⟩)
  (fun i=>i≤2) (fun i=>2 - i) 0 (by simp[DQ]) (by simp) ?_
 rintro i hi
 match i,hi with
 |0,_=>
  by_cases h:A6 (g1,h1) (a1,b1)<0
  ·rw[if_pos h]at s1
   subst s1;simp -implicitDefEqProofs[jJ,-qA,-qB,DQ];refine AA Kg J2 (by rfl) ?_
   simp -implicitDefEqProofs[jJ,-qA,-qB];refine Ac m1 ?_;simp -implicitDefEqProofs[jJ,-qA,-qB,h];refine AA (Ah [0,0,0,4,12,28,0,64,192,448,1,2045,4093,2,16383,32767]) [.any [] [] [⟨0,[7],[],[],[]⟩,⟨0,[7],[4],[],[]⟩,⟨0,[7],[],[],[]⟩,⟨0,[42],[],[],[]⟩,⟨0,[43],[],[],[]⟩,⟨0,[44],[],[],[]⟩,⟨0,[7],[],[],[]⟩,⟨0,[46],[],[],[]⟩,⟨0,[47],[],[],[]⟩,⟨0,[48],[],[],[]⟩,⟨0,[40],[],[],[]⟩,⟨0,[50],[],[],[]⟩,⟨2,[45,51],[],[],[4]⟩,⟨0,[41],[4],[],[]⟩],.one,.one] (by rfl) ?_
   simp -implicitDefEqProofs[jJ,-qA,-qB];exact⟨1,⟨rfl,rfl,rfl⟩,by omega,by omega⟩
  ·rw[if_neg h]at s1
   subst s1;simp -implicitDefEqProofs[jJ,-qA,-qB,DQ];refine AA Kg J2 (by rfl) ?_
   simp -implicitDefEqProofs[jJ,-qA,-qB];refine Ac m1 ?_;simp -implicitDefEqProofs[jJ,-qA,-qB,h];exact⟨1,⟨rfl,rfl,rfl⟩,by omega,by omega⟩
 |1,_=>
  by_cases h:A6 (e1,f1) (c1,d1)<0
  ·rw[if_pos h]at s2
   subst s2;simp -implicitDefEqProofs[jJ,-qA,-qB,DQ];refine AA Kg J2 (by rfl) ?_
   simp -implicitDefEqProofs[jJ,-qA,-qB];refine Ac m2 ?_;simp -implicitDefEqProofs[jJ,-qA,-qB,h];refine AA (Ah [0,0,0,4,12,28,0,64,192,448,1,2045,4093,2,16383,32767]) [.any [] [] [⟨0,[7],[],[],[]⟩,⟨0,[7],[5],[],[]⟩,⟨0,[7],[],[],[]⟩,⟨0,[42],[],[],[]⟩,⟨0,[43],[],[],[]⟩,⟨0,[44],[],[],[]⟩,⟨0,[7],[],[],[]⟩,⟨0,[46],[],[],[]⟩,⟨0,[47],[],[],[]⟩,⟨0,[48],[],[],[]⟩,⟨0,[40],[],[],[]⟩,⟨0,[50],[],[],[]⟩,⟨2,[45,51],[],[],[5]⟩,⟨0,[41],[5],[],[]⟩],.one,.one] (by rfl) ?_
   simp -implicitDefEqProofs[jJ,-qA,-qB];exact⟨2,⟨rfl,rfl,rfl⟩,by omega,by omega⟩
  ·rw[if_neg h]at s2
   subst s2;simp -implicitDefEqProofs[jJ,-qA,-qB,DQ];refine AA Kg J2 (by rfl) ?_
   simp -implicitDefEqProofs[jJ,-qA,-qB];refine Ac m2 ?_;simp -implicitDefEqProofs[jJ,-qA,-qB,h];exact⟨2,⟨rfl,rfl,rfl⟩,by omega,by omega⟩
 |2,_=>
  obtain⟨⟨o1,o2⟩,⟨o3,o4⟩⟩:=ou
  obtain⟨⟨i1,i2⟩,⟨i3,i4⟩⟩:=iu
  clear s1 s2 m1 m2 k1;have n1:=Hw i1 i2 o1 o2;have n2:=Hw i3 i4 o3 o4;have k3:CallsF Tryz.prog 67 [.c (.slice 2 [.int .i64 (A6 (i1,i2) (o1,o2)),.int .i64 (A6 (i3,i4) (o3,o4))])] _:=S8 [A6 (i1,i2) (o1,o2),A6 (i3,i4) (o3,o4)] (by simp)
  have j1:=O3 7 i1 i2 o1 o2 o3 o4 i3 i4 false [] [];have j2:=O3 7 o1 o2 i1 i2 i3 i4 o3 o4 false [] [];simp -implicitDefEqProofs[jJ,-qA,-qB,DQ];refine AA (Ah [0,1,0,4,15,0,32,0,128,511,1023,2047,4095]) [.any [] [] (Aq [[5],[55],[4],[57],[56,58],[5],[60],[4],[62]]),.one,.one,.one,.one] (by rfl) ?_
  simp -implicitDefEqProofs[jJ,-qA,-qB];refine Ae n1 ?_;simp -implicitDefEqProofs[jJ,-qA,-qB];refine Ac n2 ?_;simp -implicitDefEqProofs[jJ,-qA,-qB];refine Ac k3 ?_;by_cases h:BV [A6 (i1,i2) (o1,o2),A6 (i3,i4) (o3,o4)]<0
  ·simp -implicitDefEqProofs[jJ,-qA,-qB,h];refine Ac j1 ?_;simp -implicitDefEqProofs[jJ,-qA,-qB,Fct.res]
  ·simp -implicitDefEqProofs[jJ,-qA,-qB,h];refine Ac j2 ?_;simp -implicitDefEqProofs[jJ,-qA,-qB,Fct.res]
def Jd(k:Int):FuncId:=if k=5 then 118 else if k=2 then 119 else if k=3∨k=4 then 120 else if k=9 then 121 else if k=7 then 122 else 123
theorem jd7(k:Int):CallsF Tryz.prog 49 [.c (.int .i64 k)] (.u (.agg [.d (.fn (Jd k) [])])):=by
 refine cO Tryz.func49 rfl ?_;unfold Jd;by_cases h5:k=5
 ·simp -implicitDefEqProofs[jJ,-qA,-qB,h5]
 by_cases h2:k=2
 ·simp -implicitDefEqProofs[jJ,-qA,-qB,h2]
 by_cases h3:k=3
 ·simp -implicitDefEqProofs[jJ,-qA,-qB,h3]
 by_cases h4:k=4
 ·simp -implicitDefEqProofs[jJ,-qA,-qB,h4]
 by_cases h9:k=9
 ·simp -implicitDefEqProofs[jJ,-qA,-qB,h9]
 by_cases h7:k=7
 ·simp -implicitDefEqProofs[jJ,-qA,-qB,h7]
 simp -implicitDefEqProofs[jJ,-qA,-qB,h5,h2,h3,h4,h9,h7]
def Fct.zero:Fct:=⟨0,[],false,[],[]⟩
def normG(f:Fct):Fct:=
 if f.kind=5 then (match f.args with|[a,b,c]=>⟨5,[a,lo b c,hi b c],false,[],[]⟩|_=> .zero)
 else if f.kind=2 then (match f.args with|[a,b,c,d]=>HD (A7 a b) (A7 c d)|_=> .zero)
 else if f.kind=3∨f.kind=4 then (match f.args with|[a,b,c,d]=>D9 f.kind (A7 a b) (A7 c d)|_=> .zero)
 else if f.kind=9 then (match f.args with|[a,b,c,d]=>GK f.neg (val f.abs) (val f.den) (A7 a b) (A7 c d)|_=> .zero)
 else if f.kind=7 then (match f.args with|[a,b,c,d,e,f,g,h]=>Dn (A7 a b) (A7 c d) (A7 e f) (A7 g h)|_=> .zero)
 else ⟨f.kind,DX f.args,false,[],[]⟩
def normF(f:Fct):Fct:=if C3 f=true then normG f else .zero
theorem HM{α:Type}{l:List α}(h:l.length=3): ∃a b c,l=[a,b,c]:=by
 match l,h with
 |[a,b,c],_=>exact⟨a,b,c,rfl⟩
theorem Eb{α:Type}{l:List α}(h:l.length=4): ∃a b c d,l=[a,b,c,d]:=by
 match l,h with
 |[a,b,c,d],_=>exact⟨a,b,c,d,rfl⟩
theorem IY{α:Type}{l:List α}(h:l.length=8): ∃a b c d e f g i,l=[a,b,c,d,e,f,g,i]:=by
 match l,h with
 |[a,b,c,d,e,f,g,i],_=>exact⟨a,b,c,d,e,f,g,i,rfl⟩
theorem Ok.ltW{a:List Nat}(h:Ok a)(hl:a.length≤8):val a<340282366920938463463374607431768211456:=M4 h hl
theorem jge(f:Fct)(h:f.Rt):CallsF Tryz.prog (Jd f.kind) [.agg f.ds] (normG f).res:=by
 obtain⟨h1,h2,h3,h4⟩:=h.parts
 obtain⟨la,ld,oa,od,ln⟩:=h.mild
 obtain⟨k,l,n,m,d⟩:=f
 simp only[Fct.ds]at*;unfold Jd normG;simp only;by_cases h5:k=5
 ·subst h5;obtain⟨a,b,c,rfl⟩:=HM (by simpa [arity]using h2)
  simp only[if_true];exact jfK 5 a b c n m d
 by_cases h6:k=2
 ·subst h6;obtain⟨a,b,c,e,rfl⟩:=Eb (by simpa [arity]using h2)
  simp only[if_true];rw[if_neg (by omega),if_neg (by omega)]
  exact jhA a b c e n m d (h3 a (by simp)) (h3 b (by simp)) (h3 c (by simp)) (h3 e (by simp))
 by_cases h7:k=3∨k=4
 ·obtain⟨a,b,c,e,rfl⟩:=Eb (l:=l) (by rcases h7 with rfl|rfl<;>simpa [arity]using h2)
  rw[if_neg h5,if_neg h6,if_pos h7,if_neg h5,if_neg h6,if_pos h7]
  exact LI k a b c e n m d
 by_cases h8:k=9
 ·subst h8;obtain⟨a,b,c,e,rfl⟩:=Eb (by simpa [arity]using h2)
  rw[if_pos rfl]at h4
  obtain⟨e1,e2,d0,g,_⟩:=Cz h4 oa od
  rw[if_neg (by omega),if_neg (by omega),if_neg (by omega),if_pos rfl,if_neg (by omega),if_neg (by omega),if_neg (by omega),if_pos rfl]
  simp only;have:=jav a b c e n (val m) (val d) (oa.ltW la) (od.ltW ld) d0 g
  rwa [←e1,←e2]at this
 by_cases h9:k=7
 ·subst h9;obtain⟨a,b,c,e,a',b',c',e',rfl⟩:=IY (by simpa [arity]using h2)
  rw[if_neg (by omega),if_neg (by omega),if_neg (by omega),if_neg (by omega),if_pos rfl,if_neg (by omega),if_neg (by omega),if_neg (by omega),if_neg (by omega),if_pos rfl]
  exact VQ a b c e a' b' c' e' n m d
 ·rw[if_neg h5,if_neg h6,if_neg h7,if_neg h8,if_neg h9,if_neg h5,if_neg h6,if_neg h7,if_neg h8,if_neg h9]
  exact La k l n m d (fun h=>h1 (by rw[←h2,h];rfl)) ln
theorem ZD(f:Fct)(hf:f.Mild):CallsF Tryz.prog 23 [.agg f.ds] (normF f).res:=by
 refine cO Tryz.func23 rfl ?_;have k1:=Ux f hf;have k2:=jd7 f.kind;have k3:=fun h=>jge f ⟨h,hf⟩
 unfold normF;clear hf;obtain⟨k,l,n,m,d⟩:=f;simp only[Fct.ds]at*;cases h:C3 ⟨k,l,n,m,d⟩
 ·rw[h]at k1
  simp -implicitDefEqProofs[jJ,-qA,-qB];refine Ac k1 ?_;simp -implicitDefEqProofs[jJ,-qA,-qB,Fct.res,Fct.zero];exact⟨rfl,rfl⟩
 ·rw[h]at k1
  have k3:=k3 h;generalize normG ⟨k,l,n,m,d⟩=g at*;simp -implicitDefEqProofs[jJ,-qA,-qB];refine Ac k1 ?_;simp -implicitDefEqProofs[jJ,-qA,-qB];refine AA (Ah [0,1,3,7,0,31,63]) [.any [] [] (Aq [[1],[7],[8],[9],[1]]),.one,.one] (by rfl) ?_
  simp -implicitDefEqProofs[jJ,-qA,-qB];refine Ae k2 ?_;simp -implicitDefEqProofs[jJ,-qA,-qB];refine Ac k3 ?_;simp -implicitDefEqProofs[jJ,-qA,-qB,Fct.res]
end Go.Va
