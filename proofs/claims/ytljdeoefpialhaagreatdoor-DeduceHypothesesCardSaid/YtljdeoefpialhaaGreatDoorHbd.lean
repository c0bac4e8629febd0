/- a part of the proof -/
import Derived.Test.YtljdeoefpialhaaGreatDoorHbc
set_option linter.all false
set_option maxHeartbeats 4000000
set_option maxRecDepth 10000
namespace Go.Va
open Int renaming natCast_add → qA, natCast_mul → qB, natCast_emod → qC, natCast_ediv → qD, natCast_pow → qE
open List renaming reduceReplicate → qF
open Go.Proofs
theorem jfh(l:List Int)(hl:l.length≤1099511627776):CallsF Tryz.prog 50 [.c (intsD l)] (.u (.c (.d (.bool (!decide l.Nodup))))):=by
 refine cO Tryz.func50 rfl ?_;simp (maxSteps:=2000000) -implicitDefEqProofs[jJ,-qA,-qB];refine AV (fun i:Nat=>⟨[(6,vI .i64 i),(5,vI .i64 l.length),(0,vC (.d (intsD l)))],[]⟩) (fun i=>i≤l.length∧(l.take i).Nodup) (fun i=>l.length - i) 0 (by simp) (by simp) ?_
 rintro i ⟨h1,h2⟩
 by_cases h:i<l.length
 ·have hk:=Wj (l.take i) l[i] (by rw[A8];omega)
  have e:=Cr h;simp (maxSteps:=2000000) -implicitDefEqProofs[jJ,-qA,-qB,h];refine AA (Ah [0,0,3,0,0,24,56,127]) [.any [] [] (Aq [[0],[3],[9,10],[0],[3],[12,13],[14]]),.one] (by rfl) ?_
  simp (maxSteps:=2000000) -implicitDefEqProofs[jJ,-qA,-qB,h,i64];refine⟨by omega,?_⟩
  refine Ac hk ?_;by_cases hm:l[i]∈l.take i
  ·simp (maxSteps:=2000000) -implicitDefEqProofs[jJ,-qA,-qB,hm];intro hn;have:(l.take (i+1)).Nodup:=hn.sublist (List.take_sublist _ _);rw[e,List.nodup_append]at this;exact this.2.2 _ hm _ (by simp) rfl
  ·simp (maxSteps:=2000000) -implicitDefEqProofs[jJ,-qA,-qB,hm];refine⟨by omega,⟨by omega,?_⟩,by omega⟩
   rw[e,List.nodup_append]
   exact⟨h2,by simp,fun a ha b hb=>by
    have:b=l[i]:=by simpa using hb
    subst this;intro hab;exact hm (hab ▸ ha)⟩
 ·have:i=l.length:=by omega
  subst this;rw[BM]at h2;simp (maxSteps:=2000000) -implicitDefEqProofs[jJ,-qA,-qB];exact h2
def Km(neg:Bool)(m e:Nat)(p q:Int×Int):Bool:=decide (p=q)&&decide (toZ neg m=e)||decide (p.1=p.2)&&(decide (q.1=q.2)||decide (m=0))
theorem Yh(a b c d:Int)(neg:Bool)(m e:Nat)(hm:m<340282366920938463463374607431768211456)(he:e<340282366920938463463374607431768211456)(e0:e≠0):
  CallsF Tryz.prog 51 [.agg [.int .i64 9,intsD [a,b,c,d],.bool neg,Ad (limbs m),Ad (limbs e)]] (.u (.c (.d (.bool (Km neg m e (A7 a b) (A7 c d)))))):=by
 refine cO Tryz.func51 rfl ?_;have lm:=BP (n:=m) (by omega)
 have le:=BP (n:=e) (by omega)
 have k1:=I3 9 a b c d neg (limbs m) (limbs e);have k3:=Rz neg m e hm he e0;have k4:=KS 1 (by omega)
 have k5:=L0 neg (limbs m) (limbs e) (Aw _) (by omega) (Aw _) (by omega) (by rw[Az];exact e0)
 rw[Az]at k5
 clear lm le;unfold Km A7;generalize intsD [a,b,c,d]=l at*;generalize lo c d=x at*;generalize hi c d=y at*;generalize lo a b=z at*;generalize hi a b=t at*;have s1:=FT z t;have s2:=FT x y;simp (maxSteps:=2000000) -implicitDefEqProofs[jJ,-qA,-qB];refine Ac k1 ?_;simp (maxSteps:=2000000) -implicitDefEqProofs[jJ,-qA,-qB];refine AA (Ah [0,1,3,0,8,24,63,127,255,511,255,2047,4095]) [.any [] [] (Aq [[3],[6],[7],[3],[9],[10]]),.one,.one,.any [] [] (Aq [[1,13],[14,13],[13]]),.one,.one] (by rfl) ?_
 by_cases h1:z=x∧t=y
 ·obtain⟨rfl,rfl⟩:=h1
  simp (maxSteps:=2000000) -implicitDefEqProofs[jJ,-qA,-qB];refine Ae k4 ?_;simp (maxSteps:=2000000) -implicitDefEqProofs[jJ,-qA,-qB];refine Ac k3 ?_;by_cases h2:toZ neg m=e
  ·simp (maxSteps:=2000000) -implicitDefEqProofs[jJ,-qA,-qB,h2]
  ·simp (maxSteps:=2000000) -implicitDefEqProofs[jJ,-qA,-qB,h2];refine Ac s1 ?_;by_cases h3:z=t
   ·subst h3;simp (maxSteps:=2000000) -implicitDefEqProofs[jJ,-qA,-qB];refine Ac s2 ?_;simp (maxSteps:=2000000) -implicitDefEqProofs[jJ,-qA,-qB]
   ·simp (maxSteps:=2000000) -implicitDefEqProofs[jJ,-qA,-qB,h3]
 ·have h1':(decide (z=x)&&decide (t=y))=false:=by simpa using h1
  simp (maxSteps:=2000000) -implicitDefEqProofs[jJ,-qA,-qB,h1,h1'];refine Ac s1 ?_;by_cases h3:z=t
  ·subst h3;simp (maxSteps:=2000000) -implicitDefEqProofs[jJ,-qA,-qB];refine Ac s2 ?_;by_cases h4:x=y
   ·simp (maxSteps:=2000000) -implicitDefEqProofs[jJ,-qA,-qB,h4]
   ·simp (maxSteps:=2000000) -implicitDefEqProofs[jJ,-qA,-qB,h4];refine Ac k5 ?_;simp (maxSteps:=2000000) -implicitDefEqProofs[jJ,-qA,-qB,Dw,h1']
  ·simp (maxSteps:=2000000) -implicitDefEqProofs[jJ,-qA,-qB,h3,h1']
def H0(u v w z:Int×Int):Bool:=decide (u.1=u.2)||decide (v.1=v.2)||decide (w.1=w.2)||decide (z.1=z.2)||(decide (v=u)&&decide (w=z))||(decide (v=z)&&decide (w=u))
theorem jdt(a b c d e f g h:Int)(neg:Bool)(abs den:List Nat):
  CallsF Tryz.prog 52 [.agg [.int .i64 7,intsD [a,b,c,d,e,f,g,h],.bool neg,Ad abs,Ad den]] (.u (.c (.d (.bool (H0 (A7 a b) (A7 c d) (A7 e f) (A7 g h)))))):=by
 refine cO Tryz.func52 rfl ?_;have k1:=PO 7 a b c d e f g h neg abs den;unfold H0 A7;generalize intsD [a,b,c,d,e,f,g,h]=l at*;generalize lo a b=a1 at*;generalize hi a b=b1 at*;generalize lo c d=c1 at*;generalize hi c d=d1 at*;generalize lo e f=e1 at*;generalize hi e f=f1 at*;generalize lo g h=g1 at*;generalize hi g h=h1 at*;clear a b c d e f g h;have m1:=FT a1 b1;have m2:=FT c1 d1;have m3:=FT e1 f1;have m4:=FT g1 h1;simp (maxSteps:=2000000) -implicitDefEqProofs[jJ,-qA,-qB];refine Ac k1 ?_
 simp (maxSteps:=2000000) -implicitDefEqProofs[jJ,-qA,-qB];refine AV (fun i:Nat=>⟨[(10,vI .i64 i),(9,vI .i64 4),(8,vC (.sl 7 0 4)),(3,vC (.sl 7 0 4)),(1,vC (.ptr 1 0))],[(7,.row 2 [.int .i64 a1,.int .i64 b1,.int .i64 c1,.int .i64 d1,.int .i64 e1,.int .i64 f1,.int .i64 g1,.int .i64 h1] true),(1,.box [.d (.int .i64 7),.d l,.d (.bool neg),.d (Ad abs),.d (Ad den)])]⟩)
  (fun i=>i≤4∧(0<i→a1≠b1)∧(1<i→c1≠d1)∧(2<i→e1≠f1)∧(3<i→g1≠h1)) (fun i=>4 - i) 0 (by simp) (by simp) ?_
 rintro i ⟨hi,q1,q2,q3,q4⟩
 match i,hi with
 |0,_=>
  by_cases h:a1=b1
  ·simp (maxSteps:=2000000) -implicitDefEqProofs[jJ,-qA,-qB];refine Ac m1 ?_;simp (maxSteps:=2000000) -implicitDefEqProofs[jJ,-qA,-qB,h]
  ·simp (maxSteps:=2000000) -implicitDefEqProofs[jJ,-qA,-qB];refine Ac m1 ?_;simp (maxSteps:=2000000) -implicitDefEqProofs[jJ,-qA,-qB,h]
 |1,_=>
  have q1:=q1 (by omega)
  by_cases h:c1=d1
  ·simp (maxSteps:=2000000) -implicitDefEqProofs[jJ,-qA,-qB];refine Ac m2 ?_;simp (maxSteps:=2000000) -implicitDefEqProofs[jJ,-qA,-qB,h]
  ·simp (maxSteps:=2000000) -implicitDefEqProofs[jJ,-qA,-qB];refine Ac m2 ?_;simp (maxSteps:=2000000) -implicitDefEqProofs[jJ,-qA,-qB,h,q1]
 |2,_=>
  have q1:=q1 (by omega)
  have q2:=q2 (by omega)
  by_cases h:e1=f1
  ·simp (maxSteps:=2000000) -implicitDefEqProofs[jJ,-qA,-qB];refine Ac m3 ?_;simp (maxSteps:=2000000) -implicitDefEqProofs[jJ,-qA,-qB,h]
  ·simp (maxSteps:=2000000) -implicitDefEqProofs[jJ,-qA,-qB];refine Ac m3 ?_;simp (maxSteps:=2000000) -implicitDefEqProofs[jJ,-qA,-qB,h,q1,q2]
 |3,_=>
  have q1:=q1 (by omega)
  have q2:=q2 (by omega)
  have q3:=q3 (by omega)
  by_cases h:g1=h1
  ·simp (maxSteps:=2000000) -implicitDefEqProofs[jJ,-qA,-qB];refine Ac m4 ?_;simp (maxSteps:=2000000) -implicitDefEqProofs[jJ,-qA,-qB,h]
  ·simp (maxSteps:=2000000) -implicitDefEqProofs[jJ,-qA,-qB];refine Ac m4 ?_;simp (maxSteps:=2000000) -implicitDefEqProofs[jJ,-qA,-qB,h,q1,q2,q3]
 |4,_=>
  have q1:=q1 (by omega)
  have q2:=q2 (by omega)
  have q3:=q3 (by omega)
  have q4:=q4 (by omega)
  clear m1 m2 m3 m4 k1;simp (maxSteps:=2000000) -implicitDefEqProofs[jJ,-qA,-qB,q1,q2,q3,q4];refine AA (Ah [0,1,3,0,8,24,63,127,255,511,1023,255,2303,6399,16383,32767,65535,131071,262143,524287,131071,1179647,3276799,8388607,16777215,33554431,67108863,134217727,33554431,301989887,838860799,2147483647,4294967295,8589934591,17179869183]) [.any [] [] (Aq [[3],[17],[18],[3],[20],[21]]),.one,.one,.any [] [] (Aq [[3,24],[25,24],[26,24],[3,24],[28,24],[29,24]]),.one,.one,.one,.any [] [] (Aq [[3,33],[34,33],[35,33],[3,33],[37,33],[38,33]]),.one,.one,.any [] [] (Aq [[3,41],[42,41],[43,41],[3,41],[45,41],[46,41]]),.one,.one,.one,.one] (by rfl) ?_
  have A: ∀x y:Bool,(x||y)=true→x=false→y=true:=by decide
  generalize hA:(decide (c1=a1)&&decide (d1=b1))=A1;generalize hB:(decide (e1=g1)&&decide (f1=h1))=A2;generalize hC:(decide (c1=g1)&&decide (d1=h1))=A3;generalize hD:(decide (e1=a1)&&decide (f1=b1))=A4;cases A1
  ·cases A3
   ·simp (maxSteps:=2000000) -implicitDefEqProofs[jJ,-qA,-qB,hA,hB,hC,hD]
   ·simp (maxSteps:=2000000) -implicitDefEqProofs[jJ,-qA,-qB,hA,hB,hC,hD]
  ·cases A2
   ·cases A3
    ·simp (maxSteps:=2000000) -implicitDefEqProofs[jJ,-qA,-qB,hA,hB,hC,hD]
    ·simp (maxSteps:=2000000) -implicitDefEqProofs[jJ,-qA,-qB,hA,hB,hC,hD]
   ·simp (maxSteps:=2000000) -implicitDefEqProofs[jJ,-qA,-qB,hA,hB,hC,hD]
def VP:List (List Nat):=(Ah [0,1,3,7,15,31,63,127,255,127,1023,2047,4095,8191,16383])
@[simp]def ND:List Seg:=[.one,.one,.one,.one,.one,.one,.one,.any [] [] (Aq [[2,11],[12,11],[3,11]]),.one,.one,.one,.one,.one]
def MW(f:Fct):Bool:=
 if f.kind=1∨f.kind=6∨f.kind=8 then !decide f.args.Nodup
 else if f.kind=5 then (match f.args with|[a,b,c]=>decide (a=b)&&decide (b=c)|_=>false)
 else if f.kind=9 then (match f.args with|[a,b,c,d]=>Km f.neg (val f.abs) (val f.den) (A7 a b) (A7 c d)|_=>false)
 else if f.kind=7 then (match f.args with|[a,b,c,d,e,f,g,h]=>H0 (A7 a b) (A7 c d) (A7 e f) (A7 g h)|_=>false)
 else (match f.args with
  |[a,b,c,d]=>if f.kind=2 then decide (lo a b=hi a b)||decide (lo c d=hi c d)||decide (A7 a b=A7 c d)
   else if f.kind=3 then decide (lo a b=hi a b)||decide (lo c d=hi c d)
   else decide (lo a b=hi a b)&&decide (lo c d=hi c d)||decide (A7 a b=A7 c d)
  |_=>false)
def Gi(f:Fct):Bool:=C3 f&&MW f
theorem VH(f:Fct)(hf:f.Mild):CallsF Tryz.prog 24 [.agg f.ds] (.u (.c (.d (.bool (Gi f))))):=by
 have k1:=Ux f hf;have k2:=fun h=>(Fct.Rt.mk h hf).parts
 unfold Gi;obtain⟨k,l,n,m,d⟩:=f;obtain⟨la,ld,oa,od,ln⟩:=hf;simp only[Fct.ds]at*;cases h:C3 ⟨k,l,n,m,d⟩
 ·rw[h]at k1
  refine cO Tryz.func24 rfl ?_;simp -implicitDefEqProofs[jJ,-qA,-qB];refine Ac k1 ?_
  simp -implicitDefEqProofs[jJ,-qA,-qB]
 ·rw[h]at k1
  obtain⟨h1,h2,h3,h4⟩:=k2 h
  clear k2 h;unfold MW;simp only;rw[Bool.true_and];by_cases i1:k=1∨k=6∨k=8
  ·rw[if_pos i1]
   have r:=jfh l ln;clear h1 h2 h3 h4;refine cO Tryz.func24 rfl ?_;simp -implicitDefEqProofs[jJ,-qA,-qB];refine Ac k1 ?_;rcases i1 with rfl|rfl|rfl<;>simp -implicitDefEqProofs[jJ,-qA,-qB]<;>refine Ac r ?_<;>simp -implicitDefEqProofs[jJ,-qA,-qB]
  rw[if_neg i1]
  by_cases i2:k=5
  ·subst i2;obtain⟨a,b,c,rfl⟩:=HM (by simpa [arity]using h2)
   rw[if_pos rfl]
   clear h1 h2 h3 h4;refine cO Tryz.func24 rfl ?_;simp -implicitDefEqProofs[jJ,-qA,-qB];refine Ac k1 ?_;simp -implicitDefEqProofs[jJ,-qA,-qB];refine AA (Ah [0,1,3,7,0,16,48,112,255,511,1023,2047,4095,8191,1023,17407,50175,115711,262143,524287,1048575]) [.any [] [] (Aq [[1],[18],[19],[20],[1],[22],[23],[24]]),.one,.one,.any [] [] (Aq [[1,27],[28,27],[29,27],[30,27],[1,27],[32,27],[33,27],[34,27]]),.one,.one,.one] (by rfl) ?_
   by_cases j:a=b<;>simp -implicitDefEqProofs[jJ,-qA,-qB,j,i64]
  rw[if_neg i2]
  by_cases i3:k=9
  ·subst i3;obtain⟨a,b,c,e,rfl⟩:=Eb (by simpa [arity]using h2)
   rw[if_pos rfl]at h4 ⊢
   obtain⟨e1,e2,d0,g,_⟩:=Cz h4 oa od
   have r:=Yh a b c e n (val m) (val d) (oa.ltW la) (od.ltW ld) d0;rw[←e1,←e2]at r;simp only;clear h1 h2 h3 h4 e1 e2;refine cO Tryz.func24 rfl ?_;simp -implicitDefEqProofs[jJ,-qA,-qB];refine Ac k1 ?_;simp -implicitDefEqProofs[jJ,-qA,-qB];refine Ac r ?_;simp -implicitDefEqProofs[jJ,-qA,-qB]
  rw[if_neg i3]
  by_cases i4:k=7
  ·subst i4;obtain⟨a,b,c,e,a',b',c',e',rfl⟩:=IY (by simpa [arity]using h2)
   rw[if_pos rfl]
   have r:=jdt a b c e a' b' c' e' n m d;clear h1 h2 h3 h4;refine cO Tryz.func24 rfl ?_;simp -implicitDefEqProofs[jJ,-qA,-qB];refine Ac k1 ?_;simp -implicitDefEqProofs[jJ,-qA,-qB];refine Ac r ?_;simp -implicitDefEqProofs[jJ,-qA,-qB]
  rw[if_neg i4]
  have hk:k=2∨k=3∨k=4:=by
   unfold arity at h1;by_cases q1:k=1∨k=5
   ·omega
   rw[if_neg q1]at h1
   by_cases q2:k=2∨k=3∨k=4∨k=6∨k=9
   ·omega
   rw[if_neg q2,if_neg i4,if_neg (by omega)]at h1
   exact absurd rfl h1
  obtain⟨a,b,c,e,rfl⟩:=Eb (l:=l) (by rcases hk with rfl|rfl|rfl<;>simpa [arity]using h2)
  have r:=I3 k a b c e n m d;simp only;unfold A7;clear h1 h2 h3 h4 i1 i2 i3 i4;generalize intsD [a,b,c,e]=l at*;generalize lo c e=x at*;generalize hi c e=y at*;generalize lo a b=z at*;generalize hi a b=t at*;have s1:=FT z t;have s2:=FT x y;clear la ld oa od ln;rcases hk with rfl|rfl|rfl
  ·refine cO Tryz.func24 rfl ?_;simp -implicitDefEqProofs[jJ,-qA,-qB];refine Ac k1 ?_
   simp -implicitDefEqProofs[jJ,-qA,-qB];refine Ac r ?_;simp -implicitDefEqProofs[jJ,-qA,-qB];refine AA (Ah [0,1,3,7,15,31,63,127,255,511,1023,2047,4095,8191,2047,18431,51199,131071,262143,524287]) [.one,.one,.one,.one,.one,.one,.one,.one,.one,.one,.one,.any [] [] (Aq [[3,62],[63,62],[64,62],[3,62],[66,62],[67,62]]),.one,.one,.one] (by rfl) ?_
   simp -implicitDefEqProofs[jJ,-qA,-qB];refine Ac s1 ?_;by_cases j1:z=t
   ·simp -implicitDefEqProofs[jJ,-qA,-qB,j1]
   ·simp -implicitDefEqProofs[jJ,-qA,-qB,j1];refine Ac s2 ?_;by_cases j2:x=y
    ·simp -implicitDefEqProofs[jJ,-qA,-qB,j2]
    ·simp -implicitDefEqProofs[jJ,-qA,-qB,j1,j2]
  ·refine cO Tryz.func24 rfl ?_;simp -implicitDefEqProofs[jJ,-qA,-qB];refine Ac k1 ?_
   simp -implicitDefEqProofs[jJ,-qA,-qB];refine Ac r ?_;simp -implicitDefEqProofs[jJ,-qA,-qB];refine Ac s1 ?_;by_cases j1:z=t
   ·simp -implicitDefEqProofs[jJ,-qA,-qB,j1]
   ·simp -implicitDefEqProofs[jJ,-qA,-qB,j1];refine Ac s2 ?_;simp -implicitDefEqProofs[jJ,-qA,-qB]
  ·refine cO Tryz.func24 rfl ?_;simp -implicitDefEqProofs[jJ,-qA,-qB];refine Ac k1 ?_
   simp -implicitDefEqProofs[jJ,-qA,-qB];refine Ac r ?_;simp -implicitDefEqProofs[jJ,-qA,-qB];refine AA (Ah [0,1,3,7,15,31,63,127,255,511,1023,2047,4095,8191,2047,18431,51199,131071,262143,524287]) [.one,.one,.one,.one,.one,.one,.one,.one,.one,.one,.one,.any [] [] (Aq [[3,93],[94,93],[95,93],[3,93],[97,93],[98,93]]),.one,.one,.one] (by rfl) ?_
   simp -implicitDefEqProofs[jJ,-qA,-qB];refine Ac s1 ?_;by_cases j1:z=t
   ·simp -implicitDefEqProofs[jJ,-qA,-qB,j1];refine Ac s2 ?_;by_cases j2:x=y
    ·simp -implicitDefEqProofs[jJ,-qA,-qB,j2]
    ·simp -implicitDefEqProofs[jJ,-qA,-qB,j2]
   ·simp -implicitDefEqProofs[jJ,-qA,-qB,j1]
theorem Fct.Rt.of{f:Fct}(hm:f.Mild)(h1:arity f.kind≠0)(h2:f.args.length=arity f.kind)(h3: ∀a∈f.args,0≤a∧a<40)
  (h4:if f.kind=9 then ratOk f.neg f.abs f.den=true else f.neg=false∧f.abs=[]∧f.den=[]):f.Rt:=by
 refine⟨?_,hm⟩
 unfold C3 wrong;rw[if_neg h1,if_neg (by omega),if_neg (by
  simp only[List.any_eq_true,not_exists,Bool.or_eq_true,decide_eq_true_eq,not_and,not_or];intro a ha;have:=h3 a ha;omega)]
 by_cases h9:f.kind=9
 ·rw[if_pos h9]at h4 ⊢
  simp[h4]
 ·rw[if_neg h9]at h4 ⊢
  simp[noRat,h4.1,h4.2.1,h4.2.2]
theorem jjZ(k:Int)(l:List Int)(hl:l.length≤1099511627776):(Fct.mk k l false [] []).Mild:=⟨by simp,by simp,Ok.nil,Ok.nil,hl⟩
theorem J5(n:Nat):lastOk (limbs n)=true:=by
 unfold lastOk;simp only[decide_eq_true_eq];intro h;have e:=Gc (limbs n) (Aw n);rw[Az]at e;obtain⟨k,hk⟩: ∃k,(limbs n).length=k+1:=by
  refine⟨(limbs n).length - 1,?_⟩
  have:limbs n≠[]:=fun h0=>by rw[h0]at h;simp at h
  have:=List.length_pos_iff.2 this
  omega
 rw[List.getLast?_eq_getElem?,hk]at h
 simp only[Nat.add_sub_cancel]at h;have h2:(limbs n).getD k 0=0:=by rw[AL,h];rfl
 have h3:Bw (limbs n) (limbs n).length≤k:=by
  rw[hk]
  unfold Bw;rw[if_pos h2];exact FF _ _
 have h4:=congrArg List.length e;rw[A8]at h4;omega
theorem Dh{a b:Int}(ha:0≤a∧a<40)(hb:0≤b∧b<40):0≤lo a b∧lo a b<40:=by unfold lo;split<;>omega
theorem C4{a b:Int}(ha:0≤a∧a<40)(hb:0≤b∧b<40):0≤hi a b∧hi a b<40:=by unfold hi;split<;>omega
theorem Nm(a b:Int):oth a b a=b:=by unfold oth;omega
theorem KI(a b:Int):oth a b b=a:=by unfold oth;omega
theorem CQ{k:Int}{l:List Int}(h1:arity k≠0)(h2:l.length=arity k)(h9:k≠9)(h3: ∀a∈l,0≤a∧a<40):(Fct.mk k l false [] []).Rt:=by
 have hl:l.length≤8:=by
  rw[h2];unfold arity;split
  ·omega
  ·split
   ·omega
   ·split
    ·omega
    ·split<;>omega
 refine Fct.Rt.of (jjZ k l (by omega)) h1 h2 h3 ?_
 rw[if_neg h9]
 exact⟨rfl,rfl,rfl⟩
theorem MK{k:Int}{p q:Int×Int}(hk:k=2∨k=3∨k=4)(p1:0≤p.1∧p.1<40)(p2:0≤p.2∧p.2<40)(q1:0≤q.1∧q.1<40)(q2:0≤q.2∧q.2<40):(D9 k p q).Rt:=by
 unfold D9;split
 ·refine CQ (by rcases hk with rfl|rfl|rfl<;>decide) (by rcases hk with rfl|rfl|rfl<;>rfl) (by omega) ?_
  simp[p1,p2,q1,q2]
 ·refine CQ (by rcases hk with rfl|rfl|rfl<;>decide) (by rcases hk with rfl|rfl|rfl<;>rfl) (by omega) ?_
  simp[p1,p2,q1,q2]
theorem Nw{f:Fct}(h:f.Rt):(normG f).Rt:=by
 obtain⟨h1,h2,h3,h4⟩:=h.parts
 obtain⟨la,ld,oa,od,ln⟩:=h.mild
 obtain⟨k,l,n,m,d⟩:=f
 simp only at*;unfold normG;simp only;by_cases h5:k=5
 ·subst h5;obtain⟨a,b,c,rfl⟩:=HM (by simpa [arity]using h2)
  simp only[if_true];refine CQ (by decide) rfl (by decide) ?_
  have a1:=Dh (h3 b (by simp)) (h3 c (by simp))
  have a2:=C4 (h3 b (by simp)) (h3 c (by simp))
  have a3:=h3 a (by simp)
  simp[a1,a2,a3]
 rw[if_neg h5]
 by_cases h6:k=2
 ·subst h6;obtain⟨a,b,c,e,rfl⟩:=Eb (by simpa [arity]using h2)
  simp only[if_true];have a1:=Dh (h3 a (by simp)) (h3 b (by simp))
  have a2:=C4 (h3 a (by simp)) (h3 b (by simp))
  have a3:=Dh (h3 c (by simp)) (h3 e (by simp))
  have a4:=C4 (h3 c (by simp)) (h3 e (by simp))
  unfold HD A7;simp only[Nm,KI];generalize lo a b=x at*;generalize hi a b=y at*;generalize lo c e=z at*;generalize hi c e=t at*;have key: ∀l:List Int,l.length=3→(∀a∈l,0≤a∧a<40)→(Fct.mk 1 (DX l) false [] []).Rt:=fun l hl hr=>by
   refine CQ (by decide) (by rw[Ky,hl];rfl) (by decide) fun a ha=>hr a ?_
   exact(List.mergeSort_perm _ _).mem_iff.1 ha
  by_cases g1:z=x∨t=x
  ·rw[if_pos g1]
   refine key _ rfl ?_;rcases g1 with rfl|rfl
   ·simp[Nm,a1,a2,a4]
   ·simp[KI,a1,a2,a3]
  ·rw[if_neg g1]
   by_cases g2:z=y∨t=y
   ·rw[if_pos g2]
    refine key _ rfl ?_;rcases g2 with rfl|rfl
    ·simp[Nm,a1,a2,a4]
    ·simp[KI,a1,a2,a3]
   ·rw[if_neg g2]
    exact MK (by omega) a1 a2 a3 a4
 rw[if_neg h6]
 by_cases h7:k=3∨k=4
 ·obtain⟨a,b,c,e,rfl⟩:=Eb (l:=l) (by rcases h7 with rfl|rfl<;>simpa [arity]using h2)
  rw[if_pos h7]
  exact MK (by omega) (Dh (h3 a (by simp)) (h3 b (by simp))) (C4 (h3 a (by simp)) (h3 b (by simp))) (Dh (h3 c (by simp)) (h3 e (by simp))) (C4 (h3 c (by simp)) (h3 e (by simp)))
 rw[if_neg h7]
 by_cases h8:k=9
 ·subst h8;obtain⟨a,b,c,e,rfl⟩:=Eb (by simpa [arity]using h2)
  rw[if_pos rfl]at h4 ⊢
  simp only;obtain⟨e1,e2,d0,g,hn⟩:=Cz h4 oa od;have a1:=Dh (h3 a (by simp)) (h3 b (by simp))
  have a2:=C4 (h3 a (by simp)) (h3 b (by simp))
  have a3:=Dh (h3 c (by simp)) (h3 e (by simp))
  have a4:=C4 (h3 c (by simp)) (h3 e (by simp))
  have lm:(limbs (val m)).length≤8:=by rw[←e1];exact la
  have le:(limbs (val d)).length≤8:=by rw[←e2];exact ld
  have r1:ratOk n (limbs (val m)) (limbs (val d))=true:=by rw[←e1,←e2];exact h4
  have r2:val m≠0→ratOk n (limbs (val d)) (limbs (val m))=true:=fun m0=>by
   unfold ratOk;rw[J5,J5,Az,Az];have g':Nat.gcd (val d) (val m)=1:=by rw[Nat.gcd_comm];exact g
   simp[limbs_nil,m0,d0,g']
  have key: ∀(l:List Int) (A B:List Nat),l.length=4→(∀a∈l,0≤a∧a<40)→A.length≤8→B.length≤8→Ok A→Ok B→ratOk n A B=true→(Fct.mk 9 l n A B).Rt:=fun l A B hl hr hA hB oA oB hR=>
   Fct.Rt.of ⟨hA,hB,oA,oB,by simp only;omega⟩ (by simp[arity]) hl hr (by rw[if_pos rfl];exact hR)
  unfold GK A7;by_cases g1:toZ n (val m)=val d
  ·rw[if_pos g1]
   exact MK (by omega) a1 a2 a3 a4
  rw[if_neg g1]
  by_cases g2:val m≠0∧A6 (lo c e,hi c e) (lo a b,hi a b)<0
  ·rw[if_pos g2]
   exact key _ _ _ rfl (by simp[a1,a2,a3,a4]) le lm (Aw _) (Aw _) (r2 g2.1)
  rw[if_neg g2]
  by_cases g3:val m≠0∧(lo a b,hi a b)=(lo c e,hi c e)∧cmpZ (toZ n (val d)*(val d:Int)) (toZ n (val m)*(val m:Int))<0
  ·rw[if_pos g3]
   exact key _ _ _ rfl (by simp[a1,a2,a3,a4]) le lm (Aw _) (Aw _) (r2 g3.1)
  ·rw[if_neg g3]
   exact key _ _ _ rfl (by simp[a1,a2,a3,a4]) lm le (Aw _) (Aw _) r1
 rw[if_neg h8]
 by_cases h9:k=7
 ·subst h9;obtain⟨a,b,c,e,a',b',c',e',rfl⟩:=IY (by simpa [arity]using h2)
  rw[if_pos rfl]
  simp only;have a1:=Dh (h3 a (by simp)) (h3 b (by simp))
  have a2:=C4 (h3 a (by simp)) (h3 b (by simp))
  have a3:=Dh (h3 c (by simp)) (h3 e (by simp))
  have a4:=C4 (h3 c (by simp)) (h3 e (by simp))
  have b1:=Dh (h3 a' (by simp)) (h3 b' (by simp))
  have b2:=C4 (h3 a' (by simp)) (h3 b' (by simp))
  have b3:=Dh (h3 c' (by simp)) (h3 e' (by simp))
  have b4:=C4 (h3 c' (by simp)) (h3 e' (by simp))
  have s1: ∀p q:Int×Int,srt2 p q=(p,q)∨srt2 p q=(q,p):=fun p q=>by unfold srt2;split<;>simp
  unfold Dn A7;rcases s1 (lo a b,hi a b) (lo c' e',hi c' e')with x1|x1<;>rcases s1 (lo c e,hi c e) (lo a' b',hi a' b')with x2|x2<;>rw[x1,x2]<;>split<;>exact CQ (by decide) rfl (by decide) (by simp[a1,a2,a3,a4,b1,b2,b3,b4])
 ·rw[if_neg h9]
  rw[if_neg h8]at h4
  refine CQ h1 (by rw[Ky,h2]) h8 fun a ha=>h3 a ((List.mergeSort_perm _ _).mem_iff.1 ha)
def LP(f g:Fct):Bool:=C3 f&&(C3 g&&decide (Gs (normG f) (normG g)=0))
theorem jlW(f g:Fct)(hf:f.Mild)(hg:g.Mild):CallsF Tryz.prog 12 [.agg f.ds,.agg g.ds] (.u (.c (.d (.bool (LP f g))))):=by
 have k1:=Ux f hf;have k2:=Ux g hg;have k3:=ZD f hf;have k4:=ZD g hg;have n1:=fun h=>Nw (f:=f) ⟨h,hf⟩
 have n2:=fun h=>Nw (f:=g) ⟨h,hg⟩
 unfold normF at k3 k4;unfold LP;cases h1:C3 f
 ·rw[h1]at k1
  simp only[Fct.ds]at*;refine cO Tryz.func12 rfl ?_;simp -implicitDefEqProofs[jJ,-qA,-qB];refine AA VP ND (by rfl) ?_
  simp -implicitDefEqProofs[jJ,-qA,-qB]
  (first|refine Ac k1 ?_|refine Ae k1 ?_)
  simp -implicitDefEqProofs[jJ,-qA,-qB]
 ·cases h2:C3 g
  ·rw[h1]at k1
   rw[h2]at k2
   simp only[Fct.ds]at*;refine cO Tryz.func12 rfl ?_;simp -implicitDefEqProofs[jJ,-qA,-qB];refine AA VP ND (by rfl) ?_
   simp -implicitDefEqProofs[jJ,-qA,-qB]
   (first|refine Ac k1 ?_|refine Ae k1 ?_)
   simp -implicitDefEqProofs[jJ,-qA,-qB]
   (first|refine Ac k2 ?_|refine Ae k2 ?_)
   simp -implicitDefEqProofs[jJ,-qA,-qB]
  ·have n1:=n1 h1;have n2:=n2 h2;have k5:=jbG (normG f) (normG g) n1.mild n2.mild n1.num n2.num;rw[h1]at k1 k3;rw[h2]at k2 k4;rw[if_pos rfl]at k3 k4;generalize normG f=x at*;generalize normG g=y at*;simp only[Fct.ds,Fct.res]at*;refine cO Tryz.func12 rfl ?_;simp -implicitDefEqProofs[jJ,-qA,-qB];refine AA VP ND (by rfl) ?_
   simp -implicitDefEqProofs[jJ,-qA,-qB]
   (first|refine Ac k1 ?_|refine Ae k1 ?_)
   simp -implicitDefEqProofs[jJ,-qA,-qB]
   (first|refine Ac k2 ?_|refine Ae k2 ?_)
   simp -implicitDefEqProofs[jJ,-qA,-qB]
   (first|refine Ac k3 ?_|refine Ae k3 ?_)
   simp -implicitDefEqProofs[jJ,-qA,-qB]
   (first|refine Ac k4 ?_|refine Ae k4 ?_)
   simp -implicitDefEqProofs[jJ,-qA,-qB]
   (first|refine Ac k5 ?_|refine Ae k5 ?_)
   simp -implicitDefEqProofs[jJ,-qA,-qB]
def QA:List (List Nat):=(Ah [0,1,0,7,15,0,32,0,224,480,1023])
@[simp]def P4:List Seg:=[.any [] [] (Aq [[2],[30],[5],[31,32],[33],[3],[35],[5],[36,37],[38]]),.one]
theorem Jv(a b:Int):CallsF Tryz.prog 110 [.c (.int .i64 a),.c (.int .i64 b)] (.u (.c (.d (.int .i64 (cmpZ a b))))):=by
 refine cO Tryz.func110 rfl ?_;unfold cmpZ;by_cases h:a<b
 ·simp -implicitDefEqProofs[jJ,-qA,-qB,h]
 ·by_cases h2:b<a
  ·simp -implicitDefEqProofs[jJ,-qA,-qB,h,h2]
  ·simp -implicitDefEqProofs[jJ,-qA,-qB,h,h2]
def Fct.Val(f:Fct):Prop:=f.kind=9→ratOk f.neg f.abs f.den=true
theorem Fct.Val.num{f:Fct}(h:f.Val)(hm:f.Mild):f.Num:=fun h9=>(Cz (h h9) hm.oa hm.od).2.2.1
theorem Fct.Rt.val{f:Fct}(h:f.Rt):f.Val:=fun h9=>by
 have:=h.parts.2.2.2
 rwa [if_pos h9]at this
theorem NU{x y:List Int}{i:Nat}(hx:i≤x.length)(hy:i≤y.length)(h:i=x.length∨i=y.length):BF (x.drop i) (y.drop i)=cmpZ x.length y.length:=by
 unfold cmpZ;rcases h with h|h
 ·subst h;rw[List.drop_length,jek,List.length_drop];by_cases h2:x.length<y.length
  ·rw[if_pos (by omega),if_pos (by omega)]
  ·rw[if_neg (by omega),if_neg (by omega),if_neg (by omega)]
 ·subst h;by_cases h2:y.length<x.length
  ·rw[if_neg (by omega),if_pos (by omega),BQ h2,List.drop_length]
   rfl
  ·rw[if_neg (by omega),if_neg (by omega),List.drop_length,DU (by omega)]
   rfl
theorem jb0(f g:Fct)(hf:f.Mild)(hg:g.Mild)(nf:f.Val)(ng:g.Val):CallsF Tryz.prog 44 [.agg f.ds,.agg g.ds] (.u (.c (.d (.int .i64 (Gs f g))))):=by
 have z:=cmpK_zero (a:=f) (b:=g);have e1:=Nf f g;have e2:=DP f.kind g.kind;have e3:=LC f.args g.args;rw[Nr];obtain⟨k,a,n,m,d⟩:=f;obtain⟨k',a',n',m',d'⟩:=g;obtain⟨la,ld,oa,od,ln⟩:=hf;obtain⟨la',ld',oa',od',ln'⟩:=hg;simp only[Fct.Val,Fct.ds,G4]at*;generalize cmpK ⟨k,a,n,m,d⟩ ⟨k',a',n',m',d'⟩=c at*;refine cO Tryz.func44 rfl ?_;by_cases hk:k=k'
 ·rw[if_neg (by simp[e2.2 hk])]at e1
  subst e1;simp -implicitDefEqProofs[jJ,-qA,-qB,hk];refine AV (fun i:Nat=>⟨[(5,vI .i64 i),(2,vC (.ptr 2 0)),(3,vC (.ptr 3 0))],[(3,.box [.d (.int .i64 k'),.d (intsD a'),.d (.bool n'),.d (Ad m'),.d (Ad d')]),(2,.box [.d (.int .i64 k),.d (intsD a),.d (.bool n),.d (Ad m),.d (Ad d)])]⟩)
   (fun i=>i≤a.length∧i≤a'.length∧BF (a.drop i) (a'.drop i)=BF a a') (fun i=>a.length - i) 0 (by simp[hk]) ⟨by omega,by omega,rfl⟩ ?_
  rintro i ⟨h1,h2,h3⟩
  by_cases h:i<a.length
  ·by_cases h':i<a'.length
   ·have e4:=jhZ h h';have e5:=DP a[i] a'[i];have o:=Jv a[i] a'[i];by_cases h0:a[i]=a'[i]
    ·rw[if_pos (e5.2 h0)]at e4
     simp -implicitDefEqProofs[jJ,-qA,-qB,h,h'];refine AA QA P4 (by rfl) ?_
     simp -implicitDefEqProofs[jJ,-qA,-qB,h,h',i64,h0];exact⟨by omega,⟨by omega,by omega,by rw[←e4,h3]⟩,by omega⟩
    ·have h5:cmpZ a[i] a'[i]≠0:=fun q=>h0 (e5.1 q)
     rw[if_neg h5,h3]at e4
     simp -implicitDefEqProofs[jJ,-qA,-qB,h,h'];refine AA QA P4 (by rfl) ?_
     simp -implicitDefEqProofs[jJ,-qA,-qB,h,h',i64,h0];refine AA (Ah [0,1,0,7,15,0,32,0,224,480,1023,2047]) [.any [] [] (Aq [[2],[41],[5],[42,43],[44],[3],[46],[5],[47,48],[49]]),.one,.one] (by rfl) ?_
     simp -implicitDefEqProofs[jJ,-qA,-qB,h,h',i64,h0];refine Ac o ?_;simp -implicitDefEqProofs[jJ,-qA,-qB,e4,h5]
   ·have e4:=NU h1 h2 (.inr (by omega))
    rw[h3]at e4
    have o:=Jv a.length a'.length;have hn: ¬a.length=a'.length:=by omega
    have h5:cmpZ (a.length:Int) a'.length≠0:=fun q=>hn (by have:=(DP _ _).1 q;omega)
    simp -implicitDefEqProofs[jJ,-qA,-qB,h,h',hn];refine Ac o ?_;simp -implicitDefEqProofs[jJ,-qA,-qB,e4,h5]
  ·have e4:=NU h1 h2 (.inl (by omega))
   rw[h3]at e4
   by_cases hn:a.length=a'.length
   ·have h5:cmpZ (a.length:Int) a'.length=0:=(DP _ _).2 (by omega)
    rw[h5]at e4
    have h'': ¬i<a'.length:=by omega
    by_cases h9:k=9
    ·have h9':k'=9:=by omega
     obtain⟨p1,p2,p3,p4,p5⟩:=Cz (nf h9) oa od
     obtain⟨q1,q2,q3,q4,q5⟩:=Cz (ng h9') oa' od'
     have l1:=oa.ltW la;have l2:=od.ltW ld;have l3:=oa'.ltW la';have l4:=od'.ltW ld';have r:=LL n n' (val m) (val d) (val m') (val d') (by omega) (by omega) p3 p4 (by omega) (by omega) q3 q4
     rw[←p1,←p2,←q1,←q2]at r
     simp -implicitDefEqProofs[jJ,-qA,-qB,h,h'',hn,h9,h9'];refine Ac r ?_;simp -implicitDefEqProofs[jJ,-qA,-qB,e4,h9]
    ·have h9': ¬k'=9:=by omega
     simp -implicitDefEqProofs[jJ,-qA,-qB,h,h'',hn,h9,h9',e4,hk]
   ·have o:=Jv a.length a'.length;have h5:cmpZ (a.length:Int) a'.length≠0:=fun q=>hn (by have:=(DP _ _).1 q;omega)
    simp -implicitDefEqProofs[jJ,-qA,-qB,h,hn];refine Ac o ?_;simp -implicitDefEqProofs[jJ,-qA,-qB,e4,h5]
 ·have hz:cmpZ k k'≠0:=fun q=>hk (e2.1 q)
  rw[if_pos hz]at e1
  subst e1;have o:=Jv k k';simp -implicitDefEqProofs[jJ,-qA,-qB,hk];refine Ac o ?_;simp -implicitDefEqProofs[jJ,-qA,-qB,hz]
theorem PS(f g:Fct)(hf:f.Mild)(hg:g.Mild)(nf:f.Val)(ng:g.Val):CallsF Tryz.prog 19 [.agg f.ds,.agg g.ds] (.u (.c (.d (.bool (decide (Gs f g=0)))))):=by
 have k:=jb0 f g hf hg nf ng;clear hf hg nf ng;simp only[Fct.ds]at*;refine cO Tryz.func19 rfl ?_;simp -implicitDefEqProofs[jJ,-qA,-qB];refine Ac k ?_;simp -implicitDefEqProofs[jJ,-qA,-qB]
end Go.Va
