/- a part of the proof -/
import Derived.Test.YtkfdniccmcolgaaGreatWbt
set_option linter.all false
set_option maxHeartbeats 4000000
set_option maxRecDepth 10000
namespace Go.Va
open Int (natCast_add natCast_mul natCast_emod natCast_ediv natCast_pow)
open Go.Proofs
def MV:List (List Nat):=(Aj [0,1,3,7,15,31,63,127,255,127,1023,2047,4095,8191])
@[simp]def Pe:List Seg:=[.one,.one,.one,.one,.one,.one,.one,.any [] [] (Ao [[2,11],[12,11],[3,11]]),.one,.one,.one,.one]
theorem M9{k:Int}(h:arity k≠0):k=1∨k=2∨k=3∨k=4∨k=5∨k=6∨k=7∨k=8∨k=9:=by
 unfold arity at h;by_cases q1:k=1∨k=5
 ·omega
 rw[if_neg q1]at h
 by_cases q2:k=2∨k=3∨k=4∨k=6∨k=9
 ·omega
 rw[if_neg q2]at h
 by_cases q3:k=7
 ·omega
 rw[if_neg q3]at h
 by_cases q4:k=8
 ·omega
 rw[if_neg q4]at h
 exact absurd rfl h
theorem LE(f:Fct)(hf:f.Mild):CallsF Tryz.prog 64 [.agg f.ds] (normF f).res:=by
 have k1:=FE f hf;have k2:=fun h=>(Fct.Rt.mk h hf).parts
 unfold normF;obtain⟨k,l,n,m,d⟩:=f;obtain⟨la,ld,oa,od,ln⟩:=hf;simp only[Fct.ds]at*;cases h:AK ⟨k,l,n,m,d⟩
 ·rw[h]at k1
  refine Ae (T:=tb) Ad mixed Tryz.func64 rfl (by decide) (Ac rfl) rfl ?_;unfold St.init
  simp -implicitDefEqProofs[jJ,-natCast_add,-natCast_mul];refine Aa k1 ?_;simp -implicitDefEqProofs[jJ,-natCast_add,-natCast_mul,Fct.res,Fct.zero]
 ·rw[h]at k1
  obtain⟨h1,h2,h3,h4⟩:=k2 h
  clear k2 h;rw[if_pos rfl];unfold normG;simp only;by_cases i1:k=1∨k=6∨k=8
  ·have r:=UT l ln;rw[if_neg (by omega),if_neg (by omega),if_neg (by omega),if_neg (by omega),if_neg (by omega)]
   clear h1 h2 h3 h4;refine Ae (T:=tb) Ad mixed Tryz.func64 rfl (by decide) (Ac rfl) rfl ?_;unfold St.init
   simp -implicitDefEqProofs[jJ,-natCast_add,-natCast_mul];refine Aa k1 ?_;rcases i1 with rfl|rfl|rfl<;>simp -implicitDefEqProofs[jJ,-natCast_add,-natCast_mul]<;>refine Af (Aj [0,1,0,4,15,31]) [.any [] [] (Ao [[1],[17],[3],[19]]),.one,.one] (by rfl) ?_<;>simp -implicitDefEqProofs[jJ,-natCast_add,-natCast_mul]<;>refine Al r ?_<;>simp -implicitDefEqProofs[jJ,-natCast_add,-natCast_mul,Fct.res]
  by_cases i2:k=5
  ·subst i2;obtain⟨a,b,c,rfl⟩:=Da (by simpa [arity]using h2)
   rw[if_pos rfl]
   have r:=Eg b c;clear h1 h2 h3 h4;refine Ae (T:=tb) Ad mixed Tryz.func64 rfl (by decide) (Ac rfl) rfl ?_;unfold St.init
   simp -implicitDefEqProofs[jJ,-natCast_add,-natCast_mul];refine Aa k1 ?_;simp -implicitDefEqProofs[jJ,-natCast_add,-natCast_mul];refine Af (Aj [0,1,3,0,8,24,63,0,255]) [.any [] [4] [⟨0,[3],[4],[4],[]⟩,⟨0,[24],[4],[4],[]⟩,⟨0,[25],[4],[4],[]⟩,⟨0,[3],[4],[4],[]⟩,⟨0,[27],[4],[4],[]⟩,⟨0,[28],[4],[4],[]⟩,⟨0,[26,29],[4],[4],[]⟩,⟨1,[],[],[],[]⟩],.one] (by rfl) ?_
   simp -implicitDefEqProofs[jJ,-natCast_add,-natCast_mul,i64];refine Al r ?_;simp -implicitDefEqProofs[jJ,-natCast_add,-natCast_mul];refine Af (Aj [0,1,0,4,12,0,32,0,128,508,1023,2047]) [.any [] [40] [⟨0,[1],[40],[40],[]⟩,⟨0,[31],[40],[40],[]⟩,⟨0,[3],[],[40],[]⟩,⟨0,[33],[],[40],[]⟩,⟨0,[34],[],[40],[]⟩,⟨0,[4],[],[40],[]⟩,⟨0,[36],[],[40],[]⟩,⟨0,[4],[],[40],[]⟩,⟨0,[38],[],[40],[]⟩,⟨1,[35,37,39],[],[],[]⟩],.one,.one] (by rfl) ?_
   simp -implicitDefEqProofs[jJ,-natCast_add,-natCast_mul,i64,Fct.res];rfl
  rw[if_neg i2]
  by_cases i3:k=7
  ·subst i3;obtain⟨a,b,c,e,a',b',c',e',rfl⟩:=E4 (by simpa [arity]using h2)
   rw[if_neg (by omega),if_neg (by omega),if_neg (by omega),if_pos rfl]
   have r1:=Eg a b;have r2:=Eg c e;have r3:=Eg a' b';have r4:=Eg c' e';have r5:=YT (lo a b) (hi a b) (lo c e) (hi c e) (lo a' b') (hi a' b') (lo c' e') (hi c' e');simp only[Ah];clear h1 h2 h3 h4;refine Ae (T:=tb) Ad mixed Tryz.func64 rfl (by decide) (Ac rfl) rfl ?_;unfold St.init
   simp -implicitDefEqProofs[jJ,-natCast_add,-natCast_mul];refine Aa k1 ?_;simp -implicitDefEqProofs[jJ,-natCast_add,-natCast_mul];refine Af (Aj [0,1,3,0,8,24,63,0,128,384,0,1024,3072,8191,0,16384,49152,0,131072,393216,1048575,0,2097152,6291456,0,16777216,50331648,134217727,268435455,536870911]) [.any [] [] (Ao [[3],[44],[45],[3],[47],[48],[46,49],[3],[51],[52],[3],[54],[55],[53,56],[3],[58],[59],[3],[61],[62],[60,63],[3],[65],[66],[3],[68],[69]]),.one,.one,.one] (by rfl) ?_
   simp -implicitDefEqProofs[jJ,-natCast_add,-natCast_mul,i64];refine Al r1 ?_;simp -implicitDefEqProofs[jJ,-natCast_add,-natCast_mul];refine Al r2 ?_;simp -implicitDefEqProofs[jJ,-natCast_add,-natCast_mul];refine Al r3 ?_;simp -implicitDefEqProofs[jJ,-natCast_add,-natCast_mul];refine Aa r4 ?_;simp -implicitDefEqProofs[jJ,-natCast_add,-natCast_mul];refine Aa r5 ?_;simp -implicitDefEqProofs[jJ,-natCast_add,-natCast_mul,Fct.res]
  have hk:=M9 h1;have h22:l.length=4:=by
   rw[h2]
   rcases hk with rfl|rfl|rfl|rfl|rfl|rfl|rfl|rfl|rfl<;>simp[arity]at*
  obtain⟨a,b,c,e,rfl⟩:=By h22
  have a1:=DJ (h3 a (by simp)) (h3 b (by simp))
  have a2:=DQ (h3 a (by simp)) (h3 b (by simp))
  have a3:=DJ (h3 c (by simp)) (h3 e (by simp))
  have a4:=DQ (h3 c (by simp)) (h3 e (by simp))
  have r1:=Eg a b;have r2:=Eg c e;have key: ∀R:Fct,CallsF Tryz.prog 119 [.agg [.int .i64 k,intsD [a,b,c,e],.bool n,Ab m,Ab d],.agg [.int .i64 (lo a b),.int .i64 (hi a b)],.agg [.int .i64 (lo c e),.int .i64 (hi c e)]] R.res→
    CallsF Tryz.prog 64 [.agg [.int .i64 k,intsD [a,b,c,e],.bool n,Ab m,Ab d]] R.res:=fun R hR=>by
   have j1: ¬k=1:=by omega
   have j6: ¬k=6:=by omega
   have j8: ¬k=8:=by omega
   clear h1 h2 h3 h4 hk i1;refine Ae (T:=tb) Ad mixed Tryz.func64 rfl (by decide) (Ac rfl) rfl ?_;unfold St.init
   simp -implicitDefEqProofs[jJ,-natCast_add,-natCast_mul];refine Aa k1 ?_;simp -implicitDefEqProofs[jJ,-natCast_add,-natCast_mul,j1,j6,j8,i2,i3];refine Af (Aj [0,0,2,6,0,16,48,126,0,256,768,0,2048,6144,16382,32767,65535]) [.any [] [] (Ao [[1],[3],[74],[75],[3],[77],[78],[76,79],[3],[81],[82],[3],[84],[85],[83,86]]),.one,.one] (by rfl) ?_
   simp -implicitDefEqProofs[jJ,-natCast_add,-natCast_mul,i64];refine Al r1 ?_;simp -implicitDefEqProofs[jJ,-natCast_add,-natCast_mul];refine Al r2 ?_;simp -implicitDefEqProofs[jJ,-natCast_add,-natCast_mul];refine Aa hR ?_;simp -implicitDefEqProofs[jJ,-natCast_add,-natCast_mul,Fct.res]
  refine key _ ?_;rw[if_neg i3];simp only[Ah];by_cases q2:k=2
  ·subst q2;rw[if_pos rfl];exact X5 _ n m d _ _ _ _ a1 a2 a3 a4
  rw[if_neg q2]
  by_cases q3:k=3∨k=4
  ·rw[if_pos q3]
   exact Wt k _ n m d _ _ _ _ q3
  rw[if_neg q3]
  have q9:k=9:=by omega
  subst q9;rw[if_pos rfl];rw[if_pos rfl]at h4;obtain⟨e1,e2,d0,g,_⟩:=C7 h4 oa od;have r:=jbp [a,b,c,e] n (val m) (val d) (lo a b) (hi a b) (lo c e) (hi c e) (oa.lt64 la) (od.lt64 ld) d0 g
  rwa [←e1,←e2]at r
theorem jaa(f g:Fct)(hf:f.Mild)(hg:g.Mild):CallsF Tryz.prog 36 [.agg f.ds,.agg g.ds] (.u (.c (.d (.bool (FN f g))))):=by
 have k1:=FE f hf;have k2:=FE g hg;have k3:=LE f hf;have k4:=LE g hg;have n1:=fun h=>HW (f:=f) ⟨h,hf⟩
 have n2:=fun h=>HW (f:=g) ⟨h,hg⟩
 unfold normF at k3 k4;unfold FN;cases h1:AK f
 ·rw[h1]at k1
  simp only[Fct.ds]at*;refine Ae (T:=tb) Ad mixed Tryz.func36 rfl (by decide) (Ac rfl) rfl ?_;unfold St.init
  simp -implicitDefEqProofs[jJ,-natCast_add,-natCast_mul];refine Af MV Pe (by rfl) ?_
  simp -implicitDefEqProofs[jJ,-natCast_add,-natCast_mul];refine Aa k1 ?_;simp -implicitDefEqProofs[jJ,-natCast_add,-natCast_mul]
 ·cases h2:AK g
  ·rw[h1]at k1
   rw[h2]at k2
   simp only[Fct.ds]at*;refine Ae (T:=tb) Ad mixed Tryz.func36 rfl (by decide) (Ac rfl) rfl ?_;unfold St.init
   simp -implicitDefEqProofs[jJ,-natCast_add,-natCast_mul];refine Af MV Pe (by rfl) ?_
   simp -implicitDefEqProofs[jJ,-natCast_add,-natCast_mul];refine Aa k1 ?_;simp -implicitDefEqProofs[jJ,-natCast_add,-natCast_mul];refine Aa k2 ?_;simp -implicitDefEqProofs[jJ,-natCast_add,-natCast_mul]
  ·have n1:=n1 h1;have n2:=n2 h2;have k5:=JL (normG f) (normG g) n1.mild n2.mild n1.val n2.val;rw[h1]at k1 k3;rw[h2]at k2 k4;rw[if_pos rfl]at k3 k4;generalize normG f=x at*;generalize normG g=y at*;simp only[Fct.ds,Fct.res]at*;refine Ae (T:=tb) Ad mixed Tryz.func36 rfl (by decide) (Ac rfl) rfl ?_;unfold St.init
   simp -implicitDefEqProofs[jJ,-natCast_add,-natCast_mul];refine Af MV Pe (by rfl) ?_
   simp -implicitDefEqProofs[jJ,-natCast_add,-natCast_mul];refine Aa k1 ?_;simp -implicitDefEqProofs[jJ,-natCast_add,-natCast_mul];refine Aa k2 ?_;simp -implicitDefEqProofs[jJ,-natCast_add,-natCast_mul];refine Al k3 ?_;simp -implicitDefEqProofs[jJ,-natCast_add,-natCast_mul];refine Aa k4 ?_;simp -implicitDefEqProofs[jJ,-natCast_add,-natCast_mul];refine Aa k5 ?_;simp -implicitDefEqProofs[jJ,-natCast_add,-natCast_mul]
def Kr:List (List Nat):=(Aj [0,1,3,0,8,24,63,0,128,384,0,1024,3072,8191,0,0,65535,131071])
@[simp]def Lx:List Seg:=[.any [] [4,5] [⟨0,[3],[4,5],[4,5],[]⟩,⟨0,[68],[4,5],[4,5],[]⟩,⟨0,[69],[4,5],[4,5],[]⟩,⟨0,[3],[4,5],[4,5],[]⟩,⟨0,[71],[4,5],[4,5],[]⟩,⟨0,[72],[4,5],[4,5],[]⟩,⟨0,[70,73],[4,5],[4,5],[]⟩,⟨0,[3],[4,5],[4,5],[]⟩,⟨0,[75],[4,5],[4,5],[]⟩,⟨0,[76],[4,5],[4,5],[]⟩,⟨0,[3],[4,5],[4,5],[]⟩,⟨0,[78],[4,5],[4,5],[]⟩,⟨0,[79],[4,5],[4,5],[]⟩,⟨0,[77,80],[4,5],[4,5],[]⟩,⟨1,[],[5],[5],[]⟩,⟨1,[],[4],[4],[]⟩],.one,.one]
theorem UJ(l:List Int):l.Nodup↔ ∀p q (hq:q<l.length) (hp:p<q),l[p]≠l[q]:=by
 unfold List.Nodup;rw[List.pairwise_iff_getElem];exact⟨fun h p q hq hp=>h p q (by omega) hq hp,fun h p q _ hq hp=>h p q hq hp⟩
theorem jeg(l:List Int)(hl:l.length≤1099511627776):CallsF Tryz.prog 258 [.c (intsD l)] (.u (.c (.d (.bool (!decide l.Nodup))))):=by
 refine Ae (T:=tb) Ad mixed Tryz.func258 rfl (by decide) (Ac rfl) rfl ?_;unfold St.init
 simp -implicitDefEqProofs[jJ,-natCast_add,-natCast_mul];refine Av (fun i:Nat=>⟨[(3,vI .i64 i),(0,vC (.d (intsD l)))],[]⟩) (fun i=>i≤l.length∧ ∀p q (hq:q<l.length) (hp:p<q),p<i→l[p]≠l[q]) (fun i=>l.length - i) 0 (by simp) (by simp) ?_
 rintro i ⟨h1,h2⟩
 by_cases h:i<l.length
 ·simp -implicitDefEqProofs[jJ,-natCast_add,-natCast_mul,h];refine⟨by omega,?_⟩
  refine Av (fun k:Nat=>⟨[(4,vI .i64 k),(3,vI .i64 i),(0,vC (.d (intsD l)))],[]⟩) (fun k=>i<k∧k≤l.length∧ ∀q (hq:q<l.length) (hp:i<q),q<k→l[i]≠l[q]) (fun k=>l.length - k) (i+1) (by simp) (And.intro (Nat.lt_succ_self i) (And.intro h fun q hq a b=>absurd b (by omega))) ?_
  rintro k ⟨j1,j2,j3⟩
  by_cases g:k<l.length
  ·simp -implicitDefEqProofs[jJ,-natCast_add,-natCast_mul,g];refine Af (Aj [0,0,3,7,0,0,48,112,255]) [.any [] [] (Ao [[0],[3],[19,20],[21],[0],[4],[23,24],[25]]),.one] (by rfl) ?_
   simp -implicitDefEqProofs[jJ,-natCast_add,-natCast_mul,h,g,i64];by_cases e:l[i]=l[k]
   ·simp -implicitDefEqProofs[jJ,-natCast_add,-natCast_mul,e];rw[UJ];exact fun q=>q i k g j1 e
   ·simp -implicitDefEqProofs[jJ,-natCast_add,-natCast_mul,e];exact⟨by omega,⟨by omega,by omega,fun q hq a b=>if c:q=k then by subst c;exact e else j3 q hq a (by omega)⟩,by omega⟩
  ·have:k=l.length:=by omega
   subst this;simp -implicitDefEqProofs[jJ,-natCast_add,-natCast_mul];exact⟨by omega,⟨by omega,fun p q hq hp a=>if c:p=i then by subst c;exact j3 q hq hp hq else h2 p q hq hp (by omega)⟩,by omega⟩
 ·have:i=l.length:=by omega
  subst this;simp -implicitDefEqProofs[jJ,-natCast_add,-natCast_mul];rw[UJ];exact fun p q hq hp=>h2 p q hq hp (by omega)
theorem jgh(a1 b1 c1 d1 e1 f1 g1 h1:Int):CallsF Tryz.prog 259 [.agg [.int .i64 a1,.int .i64 b1],.agg [.int .i64 c1,.int .i64 d1],.agg [.int .i64 e1,.int .i64 f1],.agg [.int .i64 g1,.int .i64 h1]]
  (.u (.c (.d (.bool (JU (a1,b1) (c1,d1) (e1,f1) (g1,h1)))))):=by
 unfold JU;refine Ae (T:=tb) Ad mixed Tryz.func259 rfl (by decide) (Ac rfl) rfl ?_;unfold St.init
 simp -implicitDefEqProofs[jJ,-natCast_add,-natCast_mul];by_cases q1:a1=b1
 ·simp -implicitDefEqProofs[jJ,-natCast_add,-natCast_mul,q1]
 by_cases q2:c1=d1
 ·simp -implicitDefEqProofs[jJ,-natCast_add,-natCast_mul,q1,q2]
 by_cases q3:e1=f1
 ·simp -implicitDefEqProofs[jJ,-natCast_add,-natCast_mul,q1,q2,q3]
 by_cases q4:g1=h1
 ·simp -implicitDefEqProofs[jJ,-natCast_add,-natCast_mul,q1,q2,q3,q4]
 simp -implicitDefEqProofs[jJ,-natCast_add,-natCast_mul,q1,q2,q3,q4];clear q1 q2 q3 q4;have E: ∀x y:Int,(x=y)=(y=x):=fun x y=>propext eq_comm
 simp only[E c1 a1,E d1 b1,E e1 g1,E f1 h1,E c1 g1,E d1 h1,E e1 a1,E f1 b1];clear E;rcases Classical.propComplete (a1=c1)with x1|x1<;>rcases Classical.propComplete (b1=d1)with x2|x2<;>
  rcases Classical.propComplete (g1=e1)with x3|x3<;>rcases Classical.propComplete (h1=f1)with x4|x4<;>
  simp only[x1,x2,x3,x4,decide_true,decide_false,Bool.true_and,Bool.and_true,Bool.false_and,Bool.and_false,Bool.or_false,Bool.false_or,Bool.or_true,Bool.true_or,true_and,and_true,false_and,and_false,or_false,or_true,true_or,false_or,not_true_eq_false,not_false_eq_true,true_implies,false_implies,implies_true]<;>
  rcases Classical.propComplete (a1=e1)with x5|x5<;>rcases Classical.propComplete (b1=f1)with x6|x6<;>
  rcases Classical.propComplete (g1=c1)with x7|x7<;>rcases Classical.propComplete (h1=d1)with x8|x8<;>
  simp[x5,x6,x7,x8]
theorem jhJ(f:Fct)(hf:f.Mild):CallsF Tryz.prog 217 [.agg f.ds] (.u (.c (.d (.bool (Dd f))))):=by
 have k1:=FE f hf;have k2:=fun h=>(Fct.Rt.mk h hf).parts
 unfold Dd;obtain⟨k,l,n,m,d⟩:=f;obtain⟨la,ld,oa,od,ln⟩:=hf;simp only[Fct.ds]at*;cases h:AK ⟨k,l,n,m,d⟩
 ·rw[h]at k1
  refine Ae (T:=tb) Ad mixed Tryz.func217 rfl (by decide) (Ac rfl) rfl ?_;unfold St.init
  simp -implicitDefEqProofs[jJ,-natCast_add,-natCast_mul];refine Aa k1 ?_;simp -implicitDefEqProofs[jJ,-natCast_add,-natCast_mul]
 ·rw[h]at k1
  obtain⟨h1,h2,h3,h4⟩:=k2 h
  clear k2 h;unfold OU;simp only;rw[Bool.true_and];by_cases i1:k=1∨k=6∨k=8
  ·rw[if_pos i1]
   have r:=jeg l ln;clear h1 h2 h3 h4;refine Ae (T:=tb) Ad mixed Tryz.func217 rfl (by decide) (Ac rfl) rfl ?_;unfold St.init
   simp -implicitDefEqProofs[jJ,-natCast_add,-natCast_mul];refine Aa k1 ?_;rcases i1 with rfl|rfl|rfl<;>simp -implicitDefEqProofs[jJ,-natCast_add,-natCast_mul]<;>refine Aa r ?_<;>simp -implicitDefEqProofs[jJ,-natCast_add,-natCast_mul]
  rw[if_neg i1]
  by_cases i2:k=5
  ·subst i2;obtain⟨a,b,c,rfl⟩:=Da (by simpa [arity]using h2)
   rw[if_pos rfl]
   clear h1 h2 h3 h4;refine Ae (T:=tb) Ad mixed Tryz.func217 rfl (by decide) (Ac rfl) rfl ?_;unfold St.init
   simp -implicitDefEqProofs[jJ,-natCast_add,-natCast_mul];refine Aa k1 ?_;simp -implicitDefEqProofs[jJ,-natCast_add,-natCast_mul];refine Af (Aj [0,1,3,0,8,24,63,127,255,511,1023,255,2303,6399,16383,32767,65535]) [.any [] [] (Ao [[3],[21],[22],[3],[24],[25]]),.one,.one,.any [] [] (Ao [[3,28],[29,28],[30,28],[3,28],[32,28],[33,28]]),.one,.one,.one] (by rfl) ?_
   by_cases j:a=b<;>simp -implicitDefEqProofs[jJ,-natCast_add,-natCast_mul,j,i64]
  rw[if_neg i2]
  by_cases i4:k=7
  ·subst i4;obtain⟨a,b,c,e,a',b',c',e',rfl⟩:=E4 (by simpa [arity]using h2)
   rw[if_neg (by omega),if_pos rfl]
   have r1:=Eg a b;have r2:=Eg c e;have r3:=Eg a' b';have r4:=Eg c' e';have r5:=jgh (lo a b) (hi a b) (lo c e) (hi c e) (lo a' b') (hi a' b') (lo c' e') (hi c' e');simp only[Ah];clear h1 h2 h3 h4;refine Ae (T:=tb) Ad mixed Tryz.func217 rfl (by decide) (Ac rfl) rfl ?_;unfold St.init
   simp -implicitDefEqProofs[jJ,-natCast_add,-natCast_mul];refine Aa k1 ?_;simp -implicitDefEqProofs[jJ,-natCast_add,-natCast_mul];refine Af (Aj [0,1,3,0,8,24,63,0,128,384,0,1024,3072,8191,0,16384,49152,0,131072,393216,1048575,0,2097152,6291456,0,16777216,50331648,134217727,268435455,536870911]) [.any [] [] (Ao [[3],[39],[40],[3],[42],[43],[41,44],[3],[46],[47],[3],[49],[50],[48,51],[3],[53],[54],[3],[56],[57],[55,58],[3],[60],[61],[3],[63],[64]]),.one,.one,.one] (by rfl) ?_
   simp -implicitDefEqProofs[jJ,-natCast_add,-natCast_mul,i64];refine Al r1 ?_;simp -implicitDefEqProofs[jJ,-natCast_add,-natCast_mul];refine Al r2 ?_;simp -implicitDefEqProofs[jJ,-natCast_add,-natCast_mul];refine Al r3 ?_;simp -implicitDefEqProofs[jJ,-natCast_add,-natCast_mul];refine Aa r4 ?_;simp -implicitDefEqProofs[jJ,-natCast_add,-natCast_mul];refine Aa r5 ?_;simp -implicitDefEqProofs[jJ,-natCast_add,-natCast_mul]
  have hk:=M9 h1;have h22:l.length=4:=by
   rw[h2]
   rcases hk with rfl|rfl|rfl|rfl|rfl|rfl|rfl|rfl|rfl<;>simp[arity]at*
  obtain⟨a,b,c,e,rfl⟩:=By h22
  have r1:=Eg a b;have r2:=Eg c e;by_cases i3:k=9
  ·subst i3;rw[if_pos rfl]at h4 ⊢;obtain⟨e1,e2,d0,g,_⟩:=C7 h4 oa od;have k4:=Rw n (val m) (val d) (oa.lt64 la) (od.lt64 ld) d0 g;have k5:=GZ 1 (by omega)
   have k7:=OB n (val m) (val d) (by have:=oa.lt64 la;omega) (by have:=od.lt64 ld;omega) d0 g
   rw[←e1,←e2]at k4 k7
   unfold LD Ah;simp only;clear h1 h2 h3 h4 e1 e2;generalize lo c e=x at*;generalize hi c e=y at*;generalize lo a b=z at*;generalize hi a b=t at*;simp only[Prod.mk.injEq];refine Ae (T:=tb) Ad mixed Tryz.func217 rfl (by decide) (Ac rfl) rfl ?_;unfold St.init
   simp -implicitDefEqProofs[jJ,-natCast_add,-natCast_mul];refine Aa k1 ?_;simp -implicitDefEqProofs[jJ,-natCast_add,-natCast_mul];refine Af Kr Lx (by rfl) ?_
   simp -implicitDefEqProofs[jJ,-natCast_add,-natCast_mul,i64];refine Al r1 ?_;simp -implicitDefEqProofs[jJ,-natCast_add,-natCast_mul];refine Al r2 ?_;simp -implicitDefEqProofs[jJ,-natCast_add,-natCast_mul];refine Af (Aj [0,0,3,7,15,31,15,127,255,511,1023,2047,1023,5119,16383,32767,65535,131071,65535,327679,1048575,2097151,4194303,8388607,16777215,33554431,67108863,134217727,268435455,536870911]) [.any [] [] (Ao [[4],[5]]),.one,.one,.any [] [] (Ao [[1,139],[140,139],[139]]),.one,.one,.one,.any [] [] (Ao [[4,145],[146,145],[4,145],[148,145]]),.one,.one,.any [] [] (Ao [[5,151],[152,151],[5,151],[154,151]]),.one,.one,.one,.one,.one,.one,.one,.one,.one,.one] (by rfl) ?_
   by_cases j1:z=x∧t=y
   ·obtain⟨rfl,rfl⟩:=j1
    simp -implicitDefEqProofs[jJ,-natCast_add,-natCast_mul];refine Al k5 ?_;simp -implicitDefEqProofs[jJ,-natCast_add,-natCast_mul];refine Aa k4 ?_;by_cases j2:toZ n (val m)=val d
    ·simp -implicitDefEqProofs[jJ,-natCast_add,-natCast_mul,j2]
    ·simp -implicitDefEqProofs[jJ,-natCast_add,-natCast_mul,j2];by_cases j3:z=t
     ·simp -implicitDefEqProofs[jJ,-natCast_add,-natCast_mul,j3]
     ·simp -implicitDefEqProofs[jJ,-natCast_add,-natCast_mul,j3]
   ·have j1':(decide (z=x)&&decide (t=y))=false:=by simpa using j1
    simp -implicitDefEqProofs[jJ,-natCast_add,-natCast_mul,j1,j1'];by_cases j3:z=t
    ·subst j3;simp -implicitDefEqProofs[jJ,-natCast_add,-natCast_mul];by_cases j4:x=y
     ·simp -implicitDefEqProofs[jJ,-natCast_add,-natCast_mul,j4]
     ·simp -implicitDefEqProofs[jJ,-natCast_add,-natCast_mul,j4];refine Aa k7 ?_;simp -implicitDefEqProofs[jJ,-natCast_add,-natCast_mul,EG,j1']
    ·simp -implicitDefEqProofs[jJ,-natCast_add,-natCast_mul,j3,j1']
  rw[if_neg i3,if_neg i4]
  have hk:k=2∨k=3∨k=4:=by omega
  simp only;unfold Ah;clear h1 h2 h3 h4 i1 i2 i3 i4;generalize lo c e=x at*;generalize hi c e=y at*;generalize lo a b=z at*;generalize hi a b=t at*;clear la ld oa od ln;simp only[Prod.mk.injEq];rcases hk with rfl|rfl|rfl
  ·refine Ae (T:=tb) Ad mixed Tryz.func217 rfl (by decide) (Ac rfl) rfl ?_;unfold St.init
   simp -implicitDefEqProofs[jJ,-natCast_add,-natCast_mul];refine Aa k1 ?_;simp -implicitDefEqProofs[jJ,-natCast_add,-natCast_mul];refine Af Kr Lx (by rfl) ?_
   simp -implicitDefEqProofs[jJ,-natCast_add,-natCast_mul,i64];refine Al r1 ?_;simp -implicitDefEqProofs[jJ,-natCast_add,-natCast_mul];refine Al r2 ?_;simp -implicitDefEqProofs[jJ,-natCast_add,-natCast_mul];by_cases j1:z=t<;>by_cases j2:x=y<;>simp[j1,j2]
  ·refine Ae (T:=tb) Ad mixed Tryz.func217 rfl (by decide) (Ac rfl) rfl ?_;unfold St.init
   simp -implicitDefEqProofs[jJ,-natCast_add,-natCast_mul];refine Aa k1 ?_;simp -implicitDefEqProofs[jJ,-natCast_add,-natCast_mul];refine Af Kr Lx (by rfl) ?_
   simp -implicitDefEqProofs[jJ,-natCast_add,-natCast_mul,i64];refine Al r1 ?_;simp -implicitDefEqProofs[jJ,-natCast_add,-natCast_mul];refine Al r2 ?_;simp -implicitDefEqProofs[jJ,-natCast_add,-natCast_mul];by_cases j1:z=t<;>by_cases j2:x=y<;>simp[j1,j2]
  ·refine Ae (T:=tb) Ad mixed Tryz.func217 rfl (by decide) (Ac rfl) rfl ?_;unfold St.init
   simp -implicitDefEqProofs[jJ,-natCast_add,-natCast_mul];refine Aa k1 ?_;simp -implicitDefEqProofs[jJ,-natCast_add,-natCast_mul];refine Af Kr Lx (by rfl) ?_
   simp -implicitDefEqProofs[jJ,-natCast_add,-natCast_mul,i64];refine Al r1 ?_;simp -implicitDefEqProofs[jJ,-natCast_add,-natCast_mul];refine Al r2 ?_;simp -implicitDefEqProofs[jJ,-natCast_add,-natCast_mul];by_cases j1:z=t<;>by_cases j2:x=y<;>simp[j1,j2]<;>exact fun a b=>⟨a,b⟩
end Go.Va
