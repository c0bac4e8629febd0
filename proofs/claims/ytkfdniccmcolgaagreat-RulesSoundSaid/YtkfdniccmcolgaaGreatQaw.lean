/- a part of the proof -/
import Derived.Test.YtkfdniccmcolgaaGreatQav
set_option linter.all false
set_option maxHeartbeats 4000000
set_option maxRecDepth 10000
namespace Go.Va
open Int (natCast_add natCast_mul natCast_emod natCast_ediv natCast_pow)
open Go.Proofs
theorem jcs(l:List Int)(hl:l.length≤1099511627776):CallsF Tryz.prog 99 [.c (intsD l)] (.u (.c (.d (.bool (!decide l.Nodup))))):=by
 refine Ae (T:=tb) Ad mixed Tryz.func99 rfl (by decide) (Ac rfl) rfl ?_;unfold St.init
 simp (maxSteps:=2000000) -implicitDefEqProofs[jJ,-natCast_add,-natCast_mul];refine Av (fun i:Nat=>⟨[(6,vI .i64 i),(5,vI .i64 l.length),(0,vC (.d (intsD l)))],[]⟩) (fun i=>i≤l.length∧(l.take i).Nodup) (fun i=>l.length - i) 0 (by simp) (by simp) ?_
 rintro i ⟨h1,h2⟩
 by_cases h:i<l.length
 ·have hk:=jfv (l.take i) l[i] (by rw[AG];omega)
  have e:=AQ h;simp (maxSteps:=2000000) -implicitDefEqProofs[jJ,-natCast_add,-natCast_mul,h];refine Af (Aj [0,0,3,0,0,24,56,127]) [.any [] [] (Ao [[0],[3],[9,10],[0],[3],[12,13],[14]]),.one] (by rfl) ?_
  simp (maxSteps:=2000000) -implicitDefEqProofs[jJ,-natCast_add,-natCast_mul,h,i64];refine⟨by omega,?_⟩
  refine Aa hk ?_;by_cases hm:l[i]∈l.take i
  ·simp (maxSteps:=2000000) -implicitDefEqProofs[jJ,-natCast_add,-natCast_mul,hm];intro hn;have:(l.take (i+1)).Nodup:=hn.sublist (List.take_sublist _ _);rw[e,List.nodup_append]at this;exact this.2.2 _ hm _ (by simp) rfl
  ·simp (maxSteps:=2000000) -implicitDefEqProofs[jJ,-natCast_add,-natCast_mul,hm];refine⟨by omega,⟨by omega,?_⟩,by omega⟩
   rw[e,List.nodup_append]
   exact⟨h2,by simp,fun a ha b hb=>by
    have:b=l[i]:=by simpa using hb
    subst this;intro hab;exact hm (hab ▸ ha)⟩
 ·have:i=l.length:=by omega
  subst this;rw[AZ]at h2;simp (maxSteps:=2000000) -implicitDefEqProofs[jJ,-natCast_add,-natCast_mul];exact h2
def LD(neg:Bool)(m e:Nat)(p q:Int×Int):Bool:=decide (p=q)&&decide (toZ neg m=e)||decide (p.1=p.2)&&(decide (q.1=q.2)||decide (m=0))
theorem jdz(a b c d:Int)(neg:Bool)(m e:Nat)(hm:m<18446744073709551616)(he:e<18446744073709551616)(e0:e≠0):
  CallsF Tryz.prog 100 [.agg [.int .i64 9,intsD [a,b,c,d],.bool neg,Ab (limbs m),Ab (limbs e)]] (.u (.c (.d (.bool (LD neg m e (Ah a b) (Ah c d)))))):=by
 refine Ae (T:=tb) Ad mixed Tryz.func100 rfl (by decide) (Ac rfl) rfl ?_;unfold St.init
 have lm:=Br (n:=m) (by omega)
 have le:=Br (n:=e) (by omega)
 have k1:=IW 9 a b c d neg (limbs m) (limbs e);have k3:=UF neg m e hm he e0;have k4:=IZ 1 (by omega)
 have k5:=OC neg (limbs m) (limbs e) (Ap _) (by omega) (Ap _) (by omega) (by rw[Am];exact e0)
 rw[Am]at k5
 clear lm le;unfold LD Ah;generalize intsD [a,b,c,d]=l at*;generalize lo c d=x at*;generalize hi c d=y at*;generalize lo a b=z at*;generalize hi a b=t at*;have s1:=Gy z t;have s2:=Gy x y;simp (maxSteps:=2000000) -implicitDefEqProofs[jJ,-natCast_add,-natCast_mul];refine Aa k1 ?_;simp (maxSteps:=2000000) -implicitDefEqProofs[jJ,-natCast_add,-natCast_mul];refine Af (Aj [0,1,3,0,8,24,63,127,255,511,255,2047,4095]) [.any [] [] (Ao [[3],[6],[7],[3],[9],[10]]),.one,.one,.any [] [] (Ao [[1,13],[14,13],[13]]),.one,.one] (by rfl) ?_
 by_cases h1:z=x∧t=y
 ·obtain⟨rfl,rfl⟩:=h1
  simp (maxSteps:=2000000) -implicitDefEqProofs[jJ,-natCast_add,-natCast_mul];refine Al k4 ?_;simp (maxSteps:=2000000) -implicitDefEqProofs[jJ,-natCast_add,-natCast_mul];refine Aa k3 ?_;by_cases h2:toZ neg m=e
  ·simp (maxSteps:=2000000) -implicitDefEqProofs[jJ,-natCast_add,-natCast_mul,h2]
  ·simp (maxSteps:=2000000) -implicitDefEqProofs[jJ,-natCast_add,-natCast_mul,h2];refine Aa s1 ?_;by_cases h3:z=t
   ·subst h3;simp (maxSteps:=2000000) -implicitDefEqProofs[jJ,-natCast_add,-natCast_mul];refine Aa s2 ?_;simp (maxSteps:=2000000) -implicitDefEqProofs[jJ,-natCast_add,-natCast_mul]
   ·simp (maxSteps:=2000000) -implicitDefEqProofs[jJ,-natCast_add,-natCast_mul,h3]
 ·have h1':(decide (z=x)&&decide (t=y))=false:=by simpa using h1
  simp (maxSteps:=2000000) -implicitDefEqProofs[jJ,-natCast_add,-natCast_mul,h1,h1'];refine Aa s1 ?_;by_cases h3:z=t
  ·subst h3;simp (maxSteps:=2000000) -implicitDefEqProofs[jJ,-natCast_add,-natCast_mul];refine Aa s2 ?_;by_cases h4:x=y
   ·simp (maxSteps:=2000000) -implicitDefEqProofs[jJ,-natCast_add,-natCast_mul,h4]
   ·simp (maxSteps:=2000000) -implicitDefEqProofs[jJ,-natCast_add,-natCast_mul,h4];refine Aa k5 ?_;simp (maxSteps:=2000000) -implicitDefEqProofs[jJ,-natCast_add,-natCast_mul,EG,h1']
  ·simp (maxSteps:=2000000) -implicitDefEqProofs[jJ,-natCast_add,-natCast_mul,h3,h1']
def JU(u v w z:Int×Int):Bool:=decide (u.1=u.2)||decide (v.1=v.2)||decide (w.1=w.2)||decide (z.1=z.2)||(decide (v=u)&&decide (w=z))||(decide (v=z)&&decide (w=u))
theorem jcR(a b c d e f g h:Int)(neg:Bool)(abs den:List Nat):
  CallsF Tryz.prog 101 [.agg [.int .i64 7,intsD [a,b,c,d,e,f,g,h],.bool neg,Ab abs,Ab den]] (.u (.c (.d (.bool (JU (Ah a b) (Ah c d) (Ah e f) (Ah g h)))))):=by
 refine Ae (T:=tb) Ad mixed Tryz.func101 rfl (by decide) (Ac rfl) rfl ?_;unfold St.init
 have k1:=T9 7 a b c d e f g h neg abs den;unfold JU Ah;generalize intsD [a,b,c,d,e,f,g,h]=l at*;generalize lo a b=a1 at*;generalize hi a b=b1 at*;generalize lo c d=c1 at*;generalize hi c d=d1 at*;generalize lo e f=e1 at*;generalize hi e f=f1 at*;generalize lo g h=g1 at*;generalize hi g h=h1 at*;clear a b c d e f g h;have m1:=Gy a1 b1;have m2:=Gy c1 d1;have m3:=Gy e1 f1;have m4:=Gy g1 h1;simp (maxSteps:=2000000) -implicitDefEqProofs[jJ,-natCast_add,-natCast_mul];refine Aa k1 ?_;simp (maxSteps:=2000000) -implicitDefEqProofs[jJ,-natCast_add,-natCast_mul];refine Av (fun i:Nat=>⟨[(10,vI .i64 i),(9,vI .i64 4),(8,vC (.sl 7 0 4)),(3,vC (.sl 7 0 4)),(1,vC (.ptr 1 0))],[(7,.row 2 [.int .i64 a1,.int .i64 b1,.int .i64 c1,.int .i64 d1,.int .i64 e1,.int .i64 f1,.int .i64 g1,.int .i64 h1] true),(1,.box [.d (.int .i64 7),.d l,.d (.bool neg),.d (Ab abs),.d (Ab den)])]⟩)
  (fun i=>i≤4∧(0<i→a1≠b1)∧(1<i→c1≠d1)∧(2<i→e1≠f1)∧(3<i→g1≠h1)) (fun i=>4 - i) 0 (by simp) (by simp) ?_
 rintro i ⟨hi,q1,q2,q3,q4⟩
 match i,hi with
 |0,_=>
  by_cases h:a1=b1
  ·simp (maxSteps:=2000000) -implicitDefEqProofs[jJ,-natCast_add,-natCast_mul];refine Aa m1 ?_;simp (maxSteps:=2000000) -implicitDefEqProofs[jJ,-natCast_add,-natCast_mul,h]
  ·simp (maxSteps:=2000000) -implicitDefEqProofs[jJ,-natCast_add,-natCast_mul];refine Aa m1 ?_;simp (maxSteps:=2000000) -implicitDefEqProofs[jJ,-natCast_add,-natCast_mul,h]
 |1,_=>
  have q1:=q1 (by omega)
  by_cases h:c1=d1
  ·simp (maxSteps:=2000000) -implicitDefEqProofs[jJ,-natCast_add,-natCast_mul];refine Aa m2 ?_;simp (maxSteps:=2000000) -implicitDefEqProofs[jJ,-natCast_add,-natCast_mul,h]
  ·simp (maxSteps:=2000000) -implicitDefEqProofs[jJ,-natCast_add,-natCast_mul];refine Aa m2 ?_;simp (maxSteps:=2000000) -implicitDefEqProofs[jJ,-natCast_add,-natCast_mul,h,q1]
 |2,_=>
  have q1:=q1 (by omega)
  have q2:=q2 (by omega)
  by_cases h:e1=f1
  ·simp (maxSteps:=2000000) -implicitDefEqProofs[jJ,-natCast_add,-natCast_mul];refine Aa m3 ?_;simp (maxSteps:=2000000) -implicitDefEqProofs[jJ,-natCast_add,-natCast_mul,h]
  ·simp (maxSteps:=2000000) -implicitDefEqProofs[jJ,-natCast_add,-natCast_mul];refine Aa m3 ?_;simp (maxSteps:=2000000) -implicitDefEqProofs[jJ,-natCast_add,-natCast_mul,h,q1,q2]
 |3,_=>
  have q1:=q1 (by omega)
  have q2:=q2 (by omega)
  have q3:=q3 (by omega)
  by_cases h:g1=h1
  ·simp (maxSteps:=2000000) -implicitDefEqProofs[jJ,-natCast_add,-natCast_mul];refine Aa m4 ?_;simp (maxSteps:=2000000) -implicitDefEqProofs[jJ,-natCast_add,-natCast_mul,h]
  ·simp (maxSteps:=2000000) -implicitDefEqProofs[jJ,-natCast_add,-natCast_mul];refine Aa m4 ?_;simp (maxSteps:=2000000) -implicitDefEqProofs[jJ,-natCast_add,-natCast_mul,h,q1,q2,q3]
 |4,_=>
  have q1:=q1 (by omega)
  have q2:=q2 (by omega)
  have q3:=q3 (by omega)
  have q4:=q4 (by omega)
  clear m1 m2 m3 m4 k1;simp (maxSteps:=2000000) -implicitDefEqProofs[jJ,-natCast_add,-natCast_mul,q1,q2,q3,q4];refine Af (Aj [0,1,3,0,8,24,63,127,255,511,1023,255,2303,6399,16383,32767,65535,131071,262143,524287,131071,1179647,3276799,8388607,16777215,33554431,67108863,134217727,33554431,301989887,838860799,2147483647,4294967295,8589934591,17179869183]) [.any [] [] (Ao [[3],[17],[18],[3],[20],[21]]),.one,.one,.any [] [] (Ao [[3,24],[25,24],[26,24],[3,24],[28,24],[29,24]]),.one,.one,.one,.any [] [] (Ao [[3,33],[34,33],[35,33],[3,33],[37,33],[38,33]]),.one,.one,.any [] [] (Ao [[3,41],[42,41],[43,41],[3,41],[45,41],[46,41]]),.one,.one,.one,.one] (by rfl) ?_
  have A: ∀x y:Bool,(x||y)=true→x=false→y=true:=by decide
  generalize hA:(decide (c1=a1)&&decide (d1=b1))=A1;generalize hB:(decide (e1=g1)&&decide (f1=h1))=A2;generalize hC:(decide (c1=g1)&&decide (d1=h1))=A3;generalize hD:(decide (e1=a1)&&decide (f1=b1))=A4;cases A1
  ·cases A3
   ·simp (maxSteps:=2000000) -implicitDefEqProofs[jJ,-natCast_add,-natCast_mul,hA,hB,hC,hD]
   ·simp (maxSteps:=2000000) -implicitDefEqProofs[jJ,-natCast_add,-natCast_mul,hA,hB,hC,hD]
  ·cases A2
   ·cases A3
    ·simp (maxSteps:=2000000) -implicitDefEqProofs[jJ,-natCast_add,-natCast_mul,hA,hB,hC,hD]
    ·simp (maxSteps:=2000000) -implicitDefEqProofs[jJ,-natCast_add,-natCast_mul,hA,hB,hC,hD]
   ·simp (maxSteps:=2000000) -implicitDefEqProofs[jJ,-natCast_add,-natCast_mul,hA,hB,hC,hD]
def OU(f:Fct):Bool:=
 if f.kind=1∨f.kind=6∨f.kind=8 then !decide f.args.Nodup
 else if f.kind=5 then (match f.args with|[a,b,c]=>decide (a=b)&&decide (b=c)|_=>false)
 else if f.kind=9 then (match f.args with|[a,b,c,d]=>LD f.neg (val f.abs) (val f.den) (Ah a b) (Ah c d)|_=>false)
 else if f.kind=7 then (match f.args with|[a,b,c,d,e,f,g,h]=>JU (Ah a b) (Ah c d) (Ah e f) (Ah g h)|_=>false)
 else (match f.args with
  |[a,b,c,d]=>if f.kind=2 then decide (lo a b=hi a b)||decide (lo c d=hi c d)||decide (Ah a b=Ah c d)
   else if f.kind=3 then decide (lo a b=hi a b)||decide (lo c d=hi c d)
   else decide (lo a b=hi a b)&&decide (lo c d=hi c d)||decide (Ah a b=Ah c d)
  |_=>false)
def Dd(f:Fct):Bool:=AK f&&OU f
theorem Rm(f:Fct)(hf:f.Mild):CallsF Tryz.prog 50 [.agg f.ds] (.u (.c (.d (.bool (Dd f))))):=by
 have k1:=RI f hf;have k2:=fun h=>(Fct.Rt.mk h hf).parts
 unfold Dd;obtain⟨k,l,n,m,d⟩:=f;obtain⟨la,ld,oa,od,ln⟩:=hf;simp only[Fct.ds]at*;cases h:AK ⟨k,l,n,m,d⟩
 ·rw[h]at k1
  refine Ae (T:=tb) Ad mixed Tryz.func50 rfl (by decide) (Ac rfl) rfl ?_;unfold St.init
  simp -implicitDefEqProofs[jJ,-natCast_add,-natCast_mul];refine Aa k1 ?_;simp -implicitDefEqProofs[jJ,-natCast_add,-natCast_mul]
 ·rw[h]at k1
  obtain⟨h1,h2,h3,h4⟩:=k2 h
  clear k2 h;unfold OU;simp only;rw[Bool.true_and];by_cases i1:k=1∨k=6∨k=8
  ·rw[if_pos i1]
   have r:=jcs l ln;clear h1 h2 h3 h4;refine Ae (T:=tb) Ad mixed Tryz.func50 rfl (by decide) (Ac rfl) rfl ?_;unfold St.init
   simp -implicitDefEqProofs[jJ,-natCast_add,-natCast_mul];refine Aa k1 ?_;rcases i1 with rfl|rfl|rfl<;>simp -implicitDefEqProofs[jJ,-natCast_add,-natCast_mul]<;>refine Aa r ?_<;>simp -implicitDefEqProofs[jJ,-natCast_add,-natCast_mul]
  rw[if_neg i1]
  by_cases i2:k=5
  ·subst i2;obtain⟨a,b,c,rfl⟩:=Da (by simpa [arity]using h2)
   rw[if_pos rfl]
   clear h1 h2 h3 h4;refine Ae (T:=tb) Ad mixed Tryz.func50 rfl (by decide) (Ac rfl) rfl ?_;unfold St.init
   simp -implicitDefEqProofs[jJ,-natCast_add,-natCast_mul];refine Aa k1 ?_;simp -implicitDefEqProofs[jJ,-natCast_add,-natCast_mul];refine Af (Aj [0,1,3,7,0,16,48,112,255,511,1023,2047,4095,8191,1023,17407,50175,115711,262143,524287,1048575]) [.any [] [] (Ao [[1],[18],[19],[20],[1],[22],[23],[24]]),.one,.one,.any [] [] (Ao [[1,27],[28,27],[29,27],[30,27],[1,27],[32,27],[33,27],[34,27]]),.one,.one,.one] (by rfl) ?_
   by_cases j:a=b<;>simp -implicitDefEqProofs[jJ,-natCast_add,-natCast_mul,j,i64]
  rw[if_neg i2]
  by_cases i3:k=9
  ·subst i3;obtain⟨a,b,c,e,rfl⟩:=By (by simpa [arity]using h2)
   rw[if_pos rfl]at h4 ⊢
   obtain⟨e1,e2,d0,g,_⟩:=C7 h4 oa od
   have r:=jdz a b c e n (val m) (val d) (oa.lt64 la) (od.lt64 ld) d0;rw[←e1,←e2]at r;simp only;clear h1 h2 h3 h4 e1 e2;refine Ae (T:=tb) Ad mixed Tryz.func50 rfl (by decide) (Ac rfl) rfl ?_;unfold St.init
   simp -implicitDefEqProofs[jJ,-natCast_add,-natCast_mul];refine Aa k1 ?_;simp -implicitDefEqProofs[jJ,-natCast_add,-natCast_mul];refine Aa r ?_;simp -implicitDefEqProofs[jJ,-natCast_add,-natCast_mul]
  rw[if_neg i3]
  by_cases i4:k=7
  ·subst i4;obtain⟨a,b,c,e,a',b',c',e',rfl⟩:=E4 (by simpa [arity]using h2)
   rw[if_pos rfl]
   have r:=jcR a b c e a' b' c' e' n m d;clear h1 h2 h3 h4;refine Ae (T:=tb) Ad mixed Tryz.func50 rfl (by decide) (Ac rfl) rfl ?_;unfold St.init
   simp -implicitDefEqProofs[jJ,-natCast_add,-natCast_mul];refine Aa k1 ?_;simp -implicitDefEqProofs[jJ,-natCast_add,-natCast_mul];refine Aa r ?_;simp -implicitDefEqProofs[jJ,-natCast_add,-natCast_mul]
  rw[if_neg i4]
  have hk:k=2∨k=3∨k=4:=by
   unfold arity at h1;by_cases q1:k=1∨k=5
   ·omega
   rw[if_neg q1]at h1
   by_cases q2:k=2∨k=3∨k=4∨k=6∨k=9
   ·omega
   rw[if_neg q2,if_neg i4,if_neg (by omega)]at h1
   exact absurd rfl h1
  obtain⟨a,b,c,e,rfl⟩:=By (l:=l) (by rcases hk with rfl|rfl|rfl<;>simpa [arity]using h2)
  have r:=IW k a b c e n m d;simp only;unfold Ah;clear h1 h2 h3 h4 i1 i2 i3 i4;generalize intsD [a,b,c,e]=l at*;generalize lo c e=x at*;generalize hi c e=y at*;generalize lo a b=z at*;generalize hi a b=t at*;have s1:=Gy z t;have s2:=Gy x y;clear la ld oa od ln;rcases hk with rfl|rfl|rfl
  ·refine Ae (T:=tb) Ad mixed Tryz.func50 rfl (by decide) (Ac rfl) rfl ?_;unfold St.init
   simp -implicitDefEqProofs[jJ,-natCast_add,-natCast_mul];refine Aa k1 ?_;simp -implicitDefEqProofs[jJ,-natCast_add,-natCast_mul];refine Aa r ?_;simp -implicitDefEqProofs[jJ,-natCast_add,-natCast_mul];refine Af (Aj [0,1,3,7,15,31,63,127,255,511,1023,2047,4095,8191,2047,18431,51199,131071,262143,524287]) [.one,.one,.one,.one,.one,.one,.one,.one,.one,.one,.one,.any [] [] (Ao [[3,62],[63,62],[64,62],[3,62],[66,62],[67,62]]),.one,.one,.one] (by rfl) ?_
   simp -implicitDefEqProofs[jJ,-natCast_add,-natCast_mul];refine Aa s1 ?_;by_cases j1:z=t
   ·simp -implicitDefEqProofs[jJ,-natCast_add,-natCast_mul,j1]
   ·simp -implicitDefEqProofs[jJ,-natCast_add,-natCast_mul,j1];refine Aa s2 ?_;by_cases j2:x=y
    ·simp -implicitDefEqProofs[jJ,-natCast_add,-natCast_mul,j2]
    ·simp -implicitDefEqProofs[jJ,-natCast_add,-natCast_mul,j1,j2]
  ·refine Ae (T:=tb) Ad mixed Tryz.func50 rfl (by decide) (Ac rfl) rfl ?_;unfold St.init
   simp -implicitDefEqProofs[jJ,-natCast_add,-natCast_mul];refine Aa k1 ?_;simp -implicitDefEqProofs[jJ,-natCast_add,-natCast_mul];refine Aa r ?_;simp -implicitDefEqProofs[jJ,-natCast_add,-natCast_mul];refine Aa s1 ?_;by_cases j1:z=t
   ·simp -implicitDefEqProofs[jJ,-natCast_add,-natCast_mul,j1]
   ·simp -implicitDefEqProofs[jJ,-natCast_add,-natCast_mul,j1];refine Aa s2 ?_;simp -implicitDefEqProofs[jJ,-natCast_add,-natCast_mul]
  ·refine Ae (T:=tb) Ad mixed Tryz.func50 rfl (by decide) (Ac rfl) rfl ?_;unfold St.init
   simp -implicitDefEqProofs[jJ,-natCast_add,-natCast_mul];refine Aa k1 ?_;simp -implicitDefEqProofs[jJ,-natCast_add,-natCast_mul];refine Aa r ?_;simp -implicitDefEqProofs[jJ,-natCast_add,-natCast_mul];refine Af (Aj [0,1,3,7,15,31,63,127,255,511,1023,2047,4095,8191,2047,18431,51199,131071,262143,524287]) [.one,.one,.one,.one,.one,.one,.one,.one,.one,.one,.one,.any [] [] (Ao [[3,93],[94,93],[95,93],[3,93],[97,93],[98,93]]),.one,.one,.one] (by rfl) ?_
   simp -implicitDefEqProofs[jJ,-natCast_add,-natCast_mul];refine Aa s1 ?_;by_cases j1:z=t
   ·simp -implicitDefEqProofs[jJ,-natCast_add,-natCast_mul,j1];refine Aa s2 ?_;by_cases j2:x=y
    ·simp -implicitDefEqProofs[jJ,-natCast_add,-natCast_mul,j2]
    ·simp -implicitDefEqProofs[jJ,-natCast_add,-natCast_mul,j2]
   ·simp -implicitDefEqProofs[jJ,-natCast_add,-natCast_mul,j1]
theorem Fct.Rt.of{f:Fct}(hm:f.Mild)(h1:arity f.kind≠0)(h2:f.args.length=arity f.kind)(h3: ∀a∈f.args,0≤a∧a<40)
  (h4:if f.kind=9 then BR f.neg f.abs f.den=true else f.neg=false∧f.abs=[]∧f.den=[]):f.Rt:=by
 refine⟨?_,hm⟩
 unfold AK FW;rw[if_neg h1,if_neg (by omega),if_neg (by
  simp only[List.any_eq_true,not_exists,Bool.or_eq_true,decide_eq_true_eq,not_and,not_or];intro a ha;have:=h3 a ha;omega)]
 by_cases h9:f.kind=9
 ·rw[if_pos h9]at h4 ⊢
  simp[h4]
 ·rw[if_neg h9]at h4 ⊢
  simp[EY,h4.1,h4.2.1,h4.2.2]
theorem KF(k:Int)(l:List Int)(hl:l.length≤1099511627776):(Fct.mk k l false [] []).Mild:=⟨by simp,by simp,Ok.nil,Ok.nil,hl⟩
theorem HE(n:Nat):lastOk (limbs n)=true:=by
 unfold lastOk;simp only[decide_eq_true_eq];intro h;have e:=HT (limbs n) (Ap n);rw[Am]at e;obtain⟨k,hk⟩: ∃k,(limbs n).length=k+1:=by
  refine⟨(limbs n).length - 1,?_⟩
  have:limbs n≠[]:=fun h0=>by rw[h0]at h;simp at h
  have:=List.length_pos_iff.2 this
  omega
 rw[List.getLast?_eq_getElem?,hk]at h
 simp only[Nat.add_sub_cancel]at h;have h2:(limbs n).getD k 0=0:=by rw[Ar,h];rfl
 have h3:Bk (limbs n) (limbs n).length≤k:=by
  rw[hk]
  unfold Bk;rw[if_pos h2];exact Hi _ _
 have h4:=congrArg List.length e;rw[AG]at h4;omega
theorem DJ{a b:Int}(ha:0≤a∧a<40)(hb:0≤b∧b<40):0≤lo a b∧lo a b<40:=by unfold lo;split<;>omega
theorem DQ{a b:Int}(ha:0≤a∧a<40)(hb:0≤b∧b<40):0≤hi a b∧hi a b<40:=by unfold hi;split<;>omega
theorem O1(a b:Int):Dg a b a=b:=by unfold Dg;omega
theorem Lw(a b:Int):Dg a b b=a:=by unfold Dg;omega
theorem Ev{k:Int}{l:List Int}(h1:arity k≠0)(h2:l.length=arity k)(h9:k≠9)(h3: ∀a∈l,0≤a∧a<40):(Fct.mk k l false [] []).Rt:=by
 have hl:l.length≤8:=by
  rw[h2];unfold arity;split
  ·omega
  ·split
   ·omega
   ·split
    ·omega
    ·split<;>omega
 refine Fct.Rt.of (KF k l (by omega)) h1 h2 h3 ?_
 rw[if_neg h9]
 exact⟨rfl,rfl,rfl⟩
theorem O4{k:Int}{p q:Int×Int}(hk:k=2∨k=3∨k=4)(p1:0≤p.1∧p.1<40)(p2:0≤p.2∧p.2<40)(q1:0≤q.1∧q.1<40)(q2:0≤q.2∧q.2<40):(B6 k p q).Rt:=by
 unfold B6;split
 ·refine Ev (by rcases hk with rfl|rfl|rfl<;>decide) (by rcases hk with rfl|rfl|rfl<;>rfl) (by omega) ?_
  simp[p1,p2,q1,q2]
 ·refine Ev (by rcases hk with rfl|rfl|rfl<;>decide) (by rcases hk with rfl|rfl|rfl<;>rfl) (by omega) ?_
  simp[p1,p2,q1,q2]
theorem HW{f:Fct}(h:f.Rt):(normG f).Rt:=by
 obtain⟨h1,h2,h3,h4⟩:=h.parts
 obtain⟨la,ld,oa,od,ln⟩:=h.mild
 obtain⟨k,l,n,m,d⟩:=f
 simp only at*;unfold normG;simp only;by_cases h5:k=5
 ·subst h5;obtain⟨a,b,c,rfl⟩:=Da (by simpa [arity]using h2)
  simp only[if_true];refine Ev (by decide) rfl (by decide) ?_
  have a1:=DJ (h3 b (by simp)) (h3 c (by simp))
  have a2:=DQ (h3 b (by simp)) (h3 c (by simp))
  have a3:=h3 a (by simp)
  simp[a1,a2,a3]
 rw[if_neg h5]
 by_cases h6:k=2
 ·subst h6;obtain⟨a,b,c,e,rfl⟩:=By (by simpa [arity]using h2)
  simp only[if_true];have a1:=DJ (h3 a (by simp)) (h3 b (by simp))
  have a2:=DQ (h3 a (by simp)) (h3 b (by simp))
  have a3:=DJ (h3 c (by simp)) (h3 e (by simp))
  have a4:=DQ (h3 c (by simp)) (h3 e (by simp))
  unfold DX Ah;simp only[O1,Lw];generalize lo a b=x at*;generalize hi a b=y at*;generalize lo c e=z at*;generalize hi c e=t at*;have key: ∀l:List Int,l.length=3→(∀a∈l,0≤a∧a<40)→(Fct.mk 1 (BE l) false [] []).Rt:=fun l hl hr=>by
   refine Ev (by decide) (by rw[Hg,hl];rfl) (by decide) fun a ha=>hr a ?_
   exact(List.mergeSort_perm _ _).mem_iff.1 ha
  by_cases g1:z=x∨t=x
  ·rw[if_pos g1]
   refine key _ rfl ?_;rcases g1 with rfl|rfl
   ·simp[O1,a1,a2,a4]
   ·simp[Lw,a1,a2,a3]
  ·rw[if_neg g1]
   by_cases g2:z=y∨t=y
   ·rw[if_pos g2]
    refine key _ rfl ?_;rcases g2 with rfl|rfl
    ·simp[O1,a1,a2,a4]
    ·simp[Lw,a1,a2,a3]
   ·rw[if_neg g2]
    exact O4 (by omega) a1 a2 a3 a4
 rw[if_neg h6]
 by_cases h7:k=3∨k=4
 ·obtain⟨a,b,c,e,rfl⟩:=By (l:=l) (by rcases h7 with rfl|rfl<;>simpa [arity]using h2)
  rw[if_pos h7]
  exact O4 (by omega) (DJ (h3 a (by simp)) (h3 b (by simp))) (DQ (h3 a (by simp)) (h3 b (by simp))) (DJ (h3 c (by simp)) (h3 e (by simp))) (DQ (h3 c (by simp)) (h3 e (by simp)))
 rw[if_neg h7]
 by_cases h8:k=9
 ·subst h8;obtain⟨a,b,c,e,rfl⟩:=By (by simpa [arity]using h2)
  rw[if_pos rfl]at h4 ⊢
  simp only;obtain⟨e1,e2,d0,g,hn⟩:=C7 h4 oa od;have a1:=DJ (h3 a (by simp)) (h3 b (by simp))
  have a2:=DQ (h3 a (by simp)) (h3 b (by simp))
  have a3:=DJ (h3 c (by simp)) (h3 e (by simp))
  have a4:=DQ (h3 c (by simp)) (h3 e (by simp))
  have lm:(limbs (val m)).length≤4:=by rw[←e1];exact la
  have le:(limbs (val d)).length≤4:=by rw[←e2];exact ld
  have r1:BR n (limbs (val m)) (limbs (val d))=true:=by rw[←e1,←e2];exact h4
  have r2:val m≠0→BR n (limbs (val d)) (limbs (val m))=true:=fun m0=>by
   unfold BR;rw[HE,HE,Am,Am];have g':Nat.gcd (val d) (val m)=1:=by rw[Nat.gcd_comm];exact g
   simp[limbs_nil,m0,d0,g']
  have key: ∀(l:List Int) (A B:List Nat),l.length=4→(∀a∈l,0≤a∧a<40)→A.length≤4→B.length≤4→Ok A→Ok B→BR n A B=true→(Fct.mk 9 l n A B).Rt:=fun l A B hl hr hA hB oA oB hR=>
   Fct.Rt.of ⟨hA,hB,oA,oB,by simp only;omega⟩ (by simp[arity]) hl hr (by rw[if_pos rfl];exact hR)
  unfold Cr Ah;by_cases g1:toZ n (val m)=val d
  ·rw[if_pos g1]
   exact O4 (by omega) a1 a2 a3 a4
  rw[if_neg g1]
  by_cases g2:val m≠0∧AC (lo c e,hi c e) (lo a b,hi a b)<0
  ·rw[if_pos g2]
   exact key _ _ _ rfl (by simp[a1,a2,a3,a4]) le lm (Ap _) (Ap _) (r2 g2.1)
  rw[if_neg g2]
  by_cases g3:val m≠0∧(lo a b,hi a b)=(lo c e,hi c e)∧Az (toZ n (val d)*(val d:Int)) (toZ n (val m)*(val m:Int))<0
  ·rw[if_pos g3]
   exact key _ _ _ rfl (by simp[a1,a2,a3,a4]) le lm (Ap _) (Ap _) (r2 g3.1)
  ·rw[if_neg g3]
   exact key _ _ _ rfl (by simp[a1,a2,a3,a4]) lm le (Ap _) (Ap _) r1
 rw[if_neg h8]
 by_cases h9:k=7
 ·subst h9;obtain⟨a,b,c,e,a',b',c',e',rfl⟩:=E4 (by simpa [arity]using h2)
  rw[if_pos rfl]
  simp only;have a1:=DJ (h3 a (by simp)) (h3 b (by simp))
  have a2:=DQ (h3 a (by simp)) (h3 b (by simp))
  have a3:=DJ (h3 c (by simp)) (h3 e (by simp))
  have a4:=DQ (h3 c (by simp)) (h3 e (by simp))
  have b1:=DJ (h3 a' (by simp)) (h3 b' (by simp))
  have b2:=DQ (h3 a' (by simp)) (h3 b' (by simp))
  have b3:=DJ (h3 c' (by simp)) (h3 e' (by simp))
  have b4:=DQ (h3 c' (by simp)) (h3 e' (by simp))
  have s1: ∀p q:Int×Int,srt2 p q=(p,q)∨srt2 p q=(q,p):=fun p q=>by unfold srt2;split<;>simp
  unfold Ci Ah;rcases s1 (lo a b,hi a b) (lo c' e',hi c' e')with x1|x1<;>rcases s1 (lo c e,hi c e) (lo a' b',hi a' b')with x2|x2<;>rw[x1,x2]<;>split<;>exact Ev (by decide) rfl (by decide) (by simp[a1,a2,a3,a4,b1,b2,b3,b4])
 ·rw[if_neg h9]
  rw[if_neg h8]at h4
  refine Ev h1 (by rw[Hg,h2]) h8 fun a ha=>h3 a ((List.mergeSort_perm _ _).mem_iff.1 ha)
end Go.Va
