/- a part of the proof -/
import Derived.Test.YtkajmpgbnbikiaaGreatDoorMau
set_option linter.all false
set_option maxHeartbeats 4000000
set_option maxRecDepth 10000
namespace Go.Va
open Int (natCast_add natCast_mul natCast_emod natCast_ediv natCast_pow)
open Go.Proofs
theorem Y9(l:List Int)(hl:l.length≤1099511627776):CallsF Tryz.prog 65 [.c (intsD l)] (.u (.c (.d (.bool (!decide l.Nodup))))):=by
 refine Ak (T:=tb) Ah mixed Tryz.func65 rfl (by decide) (Af rfl) rfl ?_;unfold St.init
 simp (maxSteps:=2000000) -implicitDefEqProofs[jJ,-natCast_add,-natCast_mul];refine AF (fun i:Nat=>⟨[(6,vI .i64 i),(5,vI .i64 l.length),(0,vC (.d (intsD l)))],[]⟩) (fun i=>i≤l.length∧(l.take i).Nodup) (fun i=>l.length - i) 0 (by simp) (by simp) ?_
 rintro i ⟨h1,h2⟩
 by_cases h:i<l.length
 ·have hk:=Xp (l.take i) l[i] (by rw[AP];omega)
  have e:=BX h;simp (maxSteps:=2000000) -implicitDefEqProofs[jJ,-natCast_add,-natCast_mul,h];refine At (Ad [0,0,3,0,0,24,56,127]) [.any [] [] (Ap [[0],[3],[9,10],[0],[3],[12,13],[14]]),.one] (by rfl) ?_
  simp (maxSteps:=2000000) -implicitDefEqProofs[jJ,-natCast_add,-natCast_mul,h,i64];refine⟨by omega,?_⟩
  (first|refine Ab hk ?_|refine Aa hk ?_)
  by_cases hm:l[i]∈l.take i
  ·simp (maxSteps:=2000000) -implicitDefEqProofs[jJ,-natCast_add,-natCast_mul,hm];intro hn;have:(l.take (i+1)).Nodup:=hn.sublist (List.take_sublist _ _);rw[e,List.nodup_append]at this;exact this.2.2 _ hm _ (by simp) rfl
  ·simp (maxSteps:=2000000) -implicitDefEqProofs[jJ,-natCast_add,-natCast_mul,hm];refine⟨by omega,⟨by omega,?_⟩,by omega⟩
   rw[e,List.nodup_append]
   exact⟨h2,by simp,fun a ha b hb=>by
    have:b=l[i]:=by simpa using hb
    subst this;intro hab;exact hm (hab ▸ ha)⟩
 ·have:i=l.length:=by omega
  subst this;rw[B1]at h2;simp (maxSteps:=2000000) -implicitDefEqProofs[jJ,-natCast_add,-natCast_mul];exact h2
def Nb(neg:Bool)(m e:Nat)(p q:Int×Int):Bool:=decide (p=q)&&decide (toZ neg m=e)||decide (p.1=p.2)&&(decide (q.1=q.2)||decide (m=0))
theorem jhh(a b c d:Int)(neg:Bool)(m e:Nat)(hm:m<18446744073709551616)(he:e<18446744073709551616)(e0:e≠0):
  CallsF Tryz.prog 66 [.agg [.int .i64 9,intsD [a,b,c,d],.bool neg,Ac (limbs m),Ac (limbs e)]] (.u (.c (.d (.bool (Nb neg m e (Ar a b) (Ar c d)))))):=by
 refine Ak (T:=tb) Ah mixed Tryz.func66 rfl (by decide) (Af rfl) rfl ?_;unfold St.init
 have lm:=B9 (n:=m) (by omega)
 have le:=B9 (n:=e) (by omega)
 have k1:=IC 9 a b c d neg (limbs m) (limbs e);have k3:=SW neg m e hm he e0;have k4:=Nn 1 (by omega)
 have k5:=G4 neg (limbs m) (limbs e) (An _) (by omega) (An _) (by omega) (by rw[Ao];exact e0)
 rw[Ao]at k5
 clear lm le;unfold Nb Ar;generalize intsD [a,b,c,d]=l at*;generalize lo c d=x at*;generalize hi c d=y at*;generalize lo a b=z at*;generalize hi a b=t at*;have s1:=FA z t;have s2:=FA x y;simp (maxSteps:=2000000) -implicitDefEqProofs[jJ,-natCast_add,-natCast_mul]
 (first|refine Ab k1 ?_|refine Aa k1 ?_)
 simp (maxSteps:=2000000) -implicitDefEqProofs[jJ,-natCast_add,-natCast_mul];refine At (Ad [0,1,3,0,8,24,63,127,255,511,255,2047,4095]) [.any [] [] (Ap [[3],[6],[7],[3],[9],[10]]),.one,.one,.any [] [] (Ap [[1,13],[14,13],[13]]),.one,.one] (by rfl) ?_
 by_cases h1:z=x∧t=y
 ·obtain⟨rfl,rfl⟩:=h1
  simp (maxSteps:=2000000) -implicitDefEqProofs[jJ,-natCast_add,-natCast_mul]
  (first|refine Ab k4 ?_|refine Aa k4 ?_)
  simp (maxSteps:=2000000) -implicitDefEqProofs[jJ,-natCast_add,-natCast_mul]
  (first|refine Ab k3 ?_|refine Aa k3 ?_)
  by_cases h2:toZ neg m=e
  ·simp (maxSteps:=2000000) -implicitDefEqProofs[jJ,-natCast_add,-natCast_mul,h2]
  ·simp (maxSteps:=2000000) -implicitDefEqProofs[jJ,-natCast_add,-natCast_mul,h2]
   (first|refine Ab s1 ?_|refine Aa s1 ?_)
   by_cases h3:z=t
   ·subst h3;simp (maxSteps:=2000000) -implicitDefEqProofs[jJ,-natCast_add,-natCast_mul]
    (first|refine Ab s2 ?_|refine Aa s2 ?_)
    simp (maxSteps:=2000000) -implicitDefEqProofs[jJ,-natCast_add,-natCast_mul]
   ·simp (maxSteps:=2000000) -implicitDefEqProofs[jJ,-natCast_add,-natCast_mul,h3]
 ·have h1':(decide (z=x)&&decide (t=y))=false:=by simpa using h1
  simp (maxSteps:=2000000) -implicitDefEqProofs[jJ,-natCast_add,-natCast_mul,h1,h1']
  (first|refine Ab s1 ?_|refine Aa s1 ?_)
  by_cases h3:z=t
  ·subst h3;simp (maxSteps:=2000000) -implicitDefEqProofs[jJ,-natCast_add,-natCast_mul]
   (first|refine Ab s2 ?_|refine Aa s2 ?_)
   by_cases h4:x=y
   ·simp (maxSteps:=2000000) -implicitDefEqProofs[jJ,-natCast_add,-natCast_mul,h4]
   ·simp (maxSteps:=2000000) -implicitDefEqProofs[jJ,-natCast_add,-natCast_mul,h4]
    (first|refine Ab k5 ?_|refine Aa k5 ?_)
    simp (maxSteps:=2000000) -implicitDefEqProofs[jJ,-natCast_add,-natCast_mul,LT,h1']
  ·simp (maxSteps:=2000000) -implicitDefEqProofs[jJ,-natCast_add,-natCast_mul,h3,h1']
def Lf(u v w z:Int×Int):Bool:=decide (u.1=u.2)||decide (v.1=v.2)||decide (w.1=w.2)||decide (z.1=z.2)||(decide (v=u)&&decide (w=z))||(decide (v=z)&&decide (w=u))
theorem jkj(a b c d e f g h:Int)(neg:Bool)(abs den:List Nat):
  CallsF Tryz.prog 67 [.agg [.int .i64 7,intsD [a,b,c,d,e,f,g,h],.bool neg,Ac abs,Ac den]] (.u (.c (.d (.bool (Lf (Ar a b) (Ar c d) (Ar e f) (Ar g h)))))):=by
 refine Ak (T:=tb) Ah mixed Tryz.func67 rfl (by decide) (Af rfl) rfl ?_;unfold St.init
 have k1:=N3 7 a b c d e f g h neg abs den;unfold Lf Ar;generalize intsD [a,b,c,d,e,f,g,h]=l at*;generalize lo a b=a1 at*;generalize hi a b=b1 at*;generalize lo c d=c1 at*;generalize hi c d=d1 at*;generalize lo e f=e1 at*;generalize hi e f=f1 at*;generalize lo g h=g1 at*;generalize hi g h=h1 at*;clear a b c d e f g h;have m1:=FA a1 b1;have m2:=FA c1 d1;have m3:=FA e1 f1;have m4:=FA g1 h1;simp (maxSteps:=2000000) -implicitDefEqProofs[jJ,-natCast_add,-natCast_mul]
 (first|refine Ab k1 ?_|refine Aa k1 ?_)
 simp (maxSteps:=2000000) -implicitDefEqProofs[jJ,-natCast_add,-natCast_mul];refine AF (fun i:Nat=>⟨[(10,vI .i64 i),(9,vI .i64 4),(8,vC (.sl 7 0 4)),(3,vC (.sl 7 0 4)),(1,vC (.ptr 1 0))],[(7,.row 2 [.int .i64 a1,.int .i64 b1,.int .i64 c1,.int .i64 d1,.int .i64 e1,.int .i64 f1,.int .i64 g1,.int .i64 h1] true),(1,.box [.d (.int .i64 7),.d l,.d (.bool neg),.d (Ac abs),.d (Ac den)])]⟩)
  (fun i=>i≤4∧(0<i→a1≠b1)∧(1<i→c1≠d1)∧(2<i→e1≠f1)∧(3<i→g1≠h1)) (fun i=>4 - i) 0 (by simp) (by simp) ?_
 rintro i ⟨hi,q1,q2,q3,q4⟩
 match i,hi with
 |0,_=>
  by_cases h:a1=b1
  ·simp (maxSteps:=2000000) -implicitDefEqProofs[jJ,-natCast_add,-natCast_mul]
   (first|refine Ab m1 ?_|refine Aa m1 ?_)
   simp (maxSteps:=2000000) -implicitDefEqProofs[jJ,-natCast_add,-natCast_mul,h]
  ·simp (maxSteps:=2000000) -implicitDefEqProofs[jJ,-natCast_add,-natCast_mul]
   (first|refine Ab m1 ?_|refine Aa m1 ?_)
   simp (maxSteps:=2000000) -implicitDefEqProofs[jJ,-natCast_add,-natCast_mul,h]
 |1,_=>
  have q1:=q1 (by omega)
  by_cases h:c1=d1
  ·simp (maxSteps:=2000000) -implicitDefEqProofs[jJ,-natCast_add,-natCast_mul]
   (first|refine Ab m2 ?_|refine Aa m2 ?_)
   simp (maxSteps:=2000000) -implicitDefEqProofs[jJ,-natCast_add,-natCast_mul,h]
  ·simp (maxSteps:=2000000) -implicitDefEqProofs[jJ,-natCast_add,-natCast_mul]
   (first|refine Ab m2 ?_|refine Aa m2 ?_)
   simp (maxSteps:=2000000) -implicitDefEqProofs[jJ,-natCast_add,-natCast_mul,h,q1]
 |2,_=>
  have q1:=q1 (by omega)
  have q2:=q2 (by omega)
  by_cases h:e1=f1
  ·simp (maxSteps:=2000000) -implicitDefEqProofs[jJ,-natCast_add,-natCast_mul]
   (first|refine Ab m3 ?_|refine Aa m3 ?_)
   simp (maxSteps:=2000000) -implicitDefEqProofs[jJ,-natCast_add,-natCast_mul,h]
  ·simp (maxSteps:=2000000) -implicitDefEqProofs[jJ,-natCast_add,-natCast_mul]
   (first|refine Ab m3 ?_|refine Aa m3 ?_)
   simp (maxSteps:=2000000) -implicitDefEqProofs[jJ,-natCast_add,-natCast_mul,h,q1,q2]
 |3,_=>
  have q1:=q1 (by omega)
  have q2:=q2 (by omega)
  have q3:=q3 (by omega)
  by_cases h:g1=h1
  ·simp (maxSteps:=2000000) -implicitDefEqProofs[jJ,-natCast_add,-natCast_mul]
   (first|refine Ab m4 ?_|refine Aa m4 ?_)
   simp (maxSteps:=2000000) -implicitDefEqProofs[jJ,-natCast_add,-natCast_mul,h]
  ·simp (maxSteps:=2000000) -implicitDefEqProofs[jJ,-natCast_add,-natCast_mul]
   (first|refine Ab m4 ?_|refine Aa m4 ?_)
   simp (maxSteps:=2000000) -implicitDefEqProofs[jJ,-natCast_add,-natCast_mul,h,q1,q2,q3]
 |4,_=>
  have q1:=q1 (by omega)
  have q2:=q2 (by omega)
  have q3:=q3 (by omega)
  have q4:=q4 (by omega)
  clear m1 m2 m3 m4 k1;simp (maxSteps:=2000000) -implicitDefEqProofs[jJ,-natCast_add,-natCast_mul,q1,q2,q3,q4];refine At (Ad [0,1,3,0,8,24,63,127,255,511,1023,255,2303,6399,16383,32767,65535,131071,262143,524287,131071,1179647,3276799,8388607,16777215,33554431,67108863,134217727,33554431,301989887,838860799,2147483647,4294967295,8589934591,17179869183]) [.any [] [] (Ap [[3],[17],[18],[3],[20],[21]]),.one,.one,.any [] [] (Ap [[3,24],[25,24],[26,24],[3,24],[28,24],[29,24]]),.one,.one,.one,.any [] [] (Ap [[3,33],[34,33],[35,33],[3,33],[37,33],[38,33]]),.one,.one,.any [] [] (Ap [[3,41],[42,41],[43,41],[3,41],[45,41],[46,41]]),.one,.one,.one,.one] (by rfl) ?_
  have A: ∀x y:Bool,(x||y)=true→x=false→y=true:=by decide
  generalize hA:(decide (c1=a1)&&decide (d1=b1))=A1;generalize hB:(decide (e1=g1)&&decide (f1=h1))=A2;generalize hC:(decide (c1=g1)&&decide (d1=h1))=A3;generalize hD:(decide (e1=a1)&&decide (f1=b1))=A4;cases A1
  ·cases A3
   ·simp (maxSteps:=2000000) -implicitDefEqProofs[jJ,-natCast_add,-natCast_mul,hA,hB,hC,hD]
   ·simp (maxSteps:=2000000) -implicitDefEqProofs[jJ,-natCast_add,-natCast_mul,hA,hB,hC,hD]
  ·cases A2
   ·cases A3
    ·simp (maxSteps:=2000000) -implicitDefEqProofs[jJ,-natCast_add,-natCast_mul,hA,hB,hC,hD]
    ·simp (maxSteps:=2000000) -implicitDefEqProofs[jJ,-natCast_add,-natCast_mul,hA,hB,hC,hD]
   ·simp (maxSteps:=2000000) -implicitDefEqProofs[jJ,-natCast_add,-natCast_mul,hA,hB,hC,hD]
def M8:List (List Nat):=(Ad [0,1,3,7,15,31,63,127,255,127,1023,2047,4095,8191,16383])
@[simp]def MU:List Seg:=[.one,.one,.one,.one,.one,.one,.one,.any [] [] (Ap [[2,11],[12,11],[3,11]]),.one,.one,.one,.one,.one]
def RT(f:Fct):Bool:=
 if f.kind=1∨f.kind=6∨f.kind=8 then !decide f.args.Nodup
 else if f.kind=5 then (match f.args with|[a,b,c]=>decide (a=b)&&decide (b=c)|_=>false)
 else if f.kind=9 then (match f.args with|[a,b,c,d]=>Nb f.neg (val f.abs) (val f.den) (Ar a b) (Ar c d)|_=>false)
 else if f.kind=7 then (match f.args with|[a,b,c,d,e,f,g,h]=>Lf (Ar a b) (Ar c d) (Ar e f) (Ar g h)|_=>false)
 else (match f.args with
  |[a,b,c,d]=>if f.kind=2 then decide (lo a b=hi a b)||decide (lo c d=hi c d)||decide (Ar a b=Ar c d)
   else if f.kind=3 then decide (lo a b=hi a b)||decide (lo c d=hi c d)
   else decide (lo a b=hi a b)&&decide (lo c d=hi c d)||decide (Ar a b=Ar c d)
  |_=>false)
def E5(f:Fct):Bool:=CU f&&RT f
theorem Lz(f:Fct)(hf:f.Mild):CallsF Tryz.prog 27 [.agg f.ds] (.u (.c (.d (.bool (E5 f))))):=by
 have k1:=Kb f hf;have k2:=fun h=>(Fct.Rt.mk h hf).parts
 unfold E5;obtain⟨k,l,n,m,d⟩:=f;obtain⟨la,ld,oa,od,ln⟩:=hf;simp only[Fct.ds]at*;cases h:CU ⟨k,l,n,m,d⟩
 ·rw[h]at k1
  refine Ak (T:=tb) Ah mixed Tryz.func27 rfl (by decide) (Af rfl) rfl ?_;unfold St.init
  simp -implicitDefEqProofs[jJ,-natCast_add,-natCast_mul]
  (first|refine Ab k1 ?_|refine Aa k1 ?_)
  simp -implicitDefEqProofs[jJ,-natCast_add,-natCast_mul]
 ·rw[h]at k1
  obtain⟨h1,h2,h3,h4⟩:=k2 h
  clear k2 h;unfold RT;simp only;rw[Bool.true_and];by_cases i1:k=1∨k=6∨k=8
  ·rw[if_pos i1]
   have r:=Y9 l ln;clear h1 h2 h3 h4;refine Ak (T:=tb) Ah mixed Tryz.func27 rfl (by decide) (Af rfl) rfl ?_;unfold St.init
   simp -implicitDefEqProofs[jJ,-natCast_add,-natCast_mul]
   (first|refine Ab k1 ?_|refine Aa k1 ?_)
   rcases i1 with rfl|rfl|rfl<;>simp -implicitDefEqProofs[jJ,-natCast_add,-natCast_mul]<;>(first|refine Ab r ?_|refine Aa r ?_)<;>simp -implicitDefEqProofs[jJ,-natCast_add,-natCast_mul]
  rw[if_neg i1]
  by_cases i2:k=5
  ·subst i2;obtain⟨a,b,c,rfl⟩:=Hx (by simpa [arity]using h2)
   rw[if_pos rfl]
   clear h1 h2 h3 h4;refine Ak (T:=tb) Ah mixed Tryz.func27 rfl (by decide) (Af rfl) rfl ?_;unfold St.init
   simp -implicitDefEqProofs[jJ,-natCast_add,-natCast_mul]
   (first|refine Ab k1 ?_|refine Aa k1 ?_)
   simp -implicitDefEqProofs[jJ,-natCast_add,-natCast_mul];refine At (Ad [0,1,3,7,0,16,48,112,255,511,1023,2047,4095,8191,1023,17407,50175,115711,262143,524287,1048575]) [.any [] [] (Ap [[1],[18],[19],[20],[1],[22],[23],[24]]),.one,.one,.any [] [] (Ap [[1,27],[28,27],[29,27],[30,27],[1,27],[32,27],[33,27],[34,27]]),.one,.one,.one] (by rfl) ?_
   by_cases j:a=b<;>simp -implicitDefEqProofs[jJ,-natCast_add,-natCast_mul,j,i64]
  rw[if_neg i2]
  by_cases i3:k=9
  ·subst i3;obtain⟨a,b,c,e,rfl⟩:=E6 (by simpa [arity]using h2)
   rw[if_pos rfl]at h4 ⊢
   obtain⟨e1,e2,d0,g,_⟩:=Fu h4 oa od
   have r:=jhh a b c e n (val m) (val d) (oa.lt64 la) (od.lt64 ld) d0;rw[←e1,←e2]at r;simp only;clear h1 h2 h3 h4 e1 e2;refine Ak (T:=tb) Ah mixed Tryz.func27 rfl (by decide) (Af rfl) rfl ?_;unfold St.init
   simp -implicitDefEqProofs[jJ,-natCast_add,-natCast_mul]
   (first|refine Ab k1 ?_|refine Aa k1 ?_)
   simp -implicitDefEqProofs[jJ,-natCast_add,-natCast_mul]
   (first|refine Ab r ?_|refine Aa r ?_)
   simp -implicitDefEqProofs[jJ,-natCast_add,-natCast_mul]
  rw[if_neg i3]
  by_cases i4:k=7
  ·subst i4;obtain⟨a,b,c,e,a',b',c',e',rfl⟩:=Jz (by simpa [arity]using h2)
   rw[if_pos rfl]
   have r:=jkj a b c e a' b' c' e' n m d;clear h1 h2 h3 h4;refine Ak (T:=tb) Ah mixed Tryz.func27 rfl (by decide) (Af rfl) rfl ?_;unfold St.init
   simp -implicitDefEqProofs[jJ,-natCast_add,-natCast_mul]
   (first|refine Ab k1 ?_|refine Aa k1 ?_)
   simp -implicitDefEqProofs[jJ,-natCast_add,-natCast_mul]
   (first|refine Ab r ?_|refine Aa r ?_)
   simp -implicitDefEqProofs[jJ,-natCast_add,-natCast_mul]
  rw[if_neg i4]
  have hk:k=2∨k=3∨k=4:=by
   unfold arity at h1;by_cases q1:k=1∨k=5
   ·omega
   rw[if_neg q1]at h1
   by_cases q2:k=2∨k=3∨k=4∨k=6∨k=9
   ·omega
   rw[if_neg q2,if_neg i4,if_neg (by omega)]at h1
   exact absurd rfl h1
  obtain⟨a,b,c,e,rfl⟩:=E6 (l:=l) (by rcases hk with rfl|rfl|rfl<;>simpa [arity]using h2)
  have r:=IC k a b c e n m d;simp only;unfold Ar;clear h1 h2 h3 h4 i1 i2 i3 i4;generalize intsD [a,b,c,e]=l at*;generalize lo c e=x at*;generalize hi c e=y at*;generalize lo a b=z at*;generalize hi a b=t at*;have s1:=FA z t;have s2:=FA x y;clear la ld oa od ln;rcases hk with rfl|rfl|rfl
  ·refine Ak (T:=tb) Ah mixed Tryz.func27 rfl (by decide) (Af rfl) rfl ?_;unfold St.init
   simp -implicitDefEqProofs[jJ,-natCast_add,-natCast_mul]
   (first|refine Ab k1 ?_|refine Aa k1 ?_)
   simp -implicitDefEqProofs[jJ,-natCast_add,-natCast_mul]
   (first|refine Ab r ?_|refine Aa r ?_)
   simp -implicitDefEqProofs[jJ,-natCast_add,-natCast_mul];refine At (Ad [0,1,3,7,15,31,63,127,255,511,1023,2047,4095,8191,2047,18431,51199,131071,262143,524287]) [.one,.one,.one,.one,.one,.one,.one,.one,.one,.one,.one,.any [] [] (Ap [[3,62],[63,62],[64,62],[3,62],[66,62],[67,62]]),.one,.one,.one] (by rfl) ?_
   simp -implicitDefEqProofs[jJ,-natCast_add,-natCast_mul]
   (first|refine Ab s1 ?_|refine Aa s1 ?_)
   by_cases j1:z=t
   ·simp -implicitDefEqProofs[jJ,-natCast_add,-natCast_mul,j1]
   ·simp -implicitDefEqProofs[jJ,-natCast_add,-natCast_mul,j1]
    (first|refine Ab s2 ?_|refine Aa s2 ?_)
    by_cases j2:x=y
    ·simp -implicitDefEqProofs[jJ,-natCast_add,-natCast_mul,j2]
    ·simp -implicitDefEqProofs[jJ,-natCast_add,-natCast_mul,j1,j2]
  ·refine Ak (T:=tb) Ah mixed Tryz.func27 rfl (by decide) (Af rfl) rfl ?_;unfold St.init
   simp -implicitDefEqProofs[jJ,-natCast_add,-natCast_mul]
   (first|refine Ab k1 ?_|refine Aa k1 ?_)
   simp -implicitDefEqProofs[jJ,-natCast_add,-natCast_mul]
   (first|refine Ab r ?_|refine Aa r ?_)
   simp -implicitDefEqProofs[jJ,-natCast_add,-natCast_mul]
   (first|refine Ab s1 ?_|refine Aa s1 ?_)
   by_cases j1:z=t
   ·simp -implicitDefEqProofs[jJ,-natCast_add,-natCast_mul,j1]
   ·simp -implicitDefEqProofs[jJ,-natCast_add,-natCast_mul,j1]
    (first|refine Ab s2 ?_|refine Aa s2 ?_)
    simp -implicitDefEqProofs[jJ,-natCast_add,-natCast_mul]
  ·refine Ak (T:=tb) Ah mixed Tryz.func27 rfl (by decide) (Af rfl) rfl ?_;unfold St.init
   simp -implicitDefEqProofs[jJ,-natCast_add,-natCast_mul]
   (first|refine Ab k1 ?_|refine Aa k1 ?_)
   simp -implicitDefEqProofs[jJ,-natCast_add,-natCast_mul]
   (first|refine Ab r ?_|refine Aa r ?_)
   simp -implicitDefEqProofs[jJ,-natCast_add,-natCast_mul];refine At (Ad [0,1,3,7,15,31,63,127,255,511,1023,2047,4095,8191,2047,18431,51199,131071,262143,524287]) [.one,.one,.one,.one,.one,.one,.one,.one,.one,.one,.one,.any [] [] (Ap [[3,93],[94,93],[95,93],[3,93],[97,93],[98,93]]),.one,.one,.one] (by rfl) ?_
   simp -implicitDefEqProofs[jJ,-natCast_add,-natCast_mul]
   (first|refine Ab s1 ?_|refine Aa s1 ?_)
   by_cases j1:z=t
   ·simp -implicitDefEqProofs[jJ,-natCast_add,-natCast_mul,j1]
    (first|refine Ab s2 ?_|refine Aa s2 ?_)
    by_cases j2:x=y
    ·simp -implicitDefEqProofs[jJ,-natCast_add,-natCast_mul,j2]
    ·simp -implicitDefEqProofs[jJ,-natCast_add,-natCast_mul,j2]
   ·simp -implicitDefEqProofs[jJ,-natCast_add,-natCast_mul,j1]
theorem Fct.Rt.of{f:Fct}(hm:f.Mild)(h1:arity f.kind≠0)(h2:f.args.length=arity f.kind)(h3: ∀a∈f.args,0≤a∧a<40)
  (h4:if f.kind=9 then ratOk f.neg f.abs f.den=true else f.neg=false∧f.abs=[]∧f.den=[]):f.Rt:=by
 refine⟨?_,hm⟩
 unfold CU IM;rw[if_neg h1,if_neg (by omega),if_neg (by
  simp only[List.any_eq_true,not_exists,Bool.or_eq_true,decide_eq_true_eq,not_and,not_or];intro a ha;have:=h3 a ha;omega)]
 by_cases h9:f.kind=9
 ·rw[if_pos h9]at h4 ⊢
  simp[h4]
 ·rw[if_neg h9]at h4 ⊢
  simp[GI,h4.1,h4.2.1,h4.2.2]
theorem jdW(k:Int)(l:List Int)(hl:l.length≤1099511627776):(Fct.mk k l false [] []).Mild:=⟨by simp,by simp,Ok.nil,Ok.nil,hl⟩
theorem QF(n:Nat):lastOk (limbs n)=true:=by
 unfold lastOk;simp only[decide_eq_true_eq];intro h;have e:=Gk (limbs n) (An n);rw[Ao]at e;obtain⟨k,hk⟩: ∃k,(limbs n).length=k+1:=by
  refine⟨(limbs n).length - 1,?_⟩
  have:limbs n≠[]:=fun h0=>by rw[h0]at h;simp at h
  have:=List.length_pos_iff.2 this
  omega
 rw[List.getLast?_eq_getElem?,hk]at h
 simp only[Nat.add_sub_cancel]at h;have h2:(limbs n).getD k 0=0:=by rw[Ax,h];rfl
 have h3:Bd (limbs n) (limbs n).length≤k:=by
  rw[hk]
  unfold Bd;rw[if_pos h2];exact FD _ _
 have h4:=congrArg List.length e;rw[AP]at h4;omega
theorem DH{a b:Int}(ha:0≤a∧a<40)(hb:0≤b∧b<40):0≤lo a b∧lo a b<40:=by unfold lo;split<;>omega
theorem DB{a b:Int}(ha:0≤a∧a<40)(hb:0≤b∧b<40):0≤hi a b∧hi a b<40:=by unfold hi;split<;>omega
theorem Nt(a b:Int):C0 a b a=b:=by unfold C0;omega
theorem MD(a b:Int):C0 a b b=a:=by unfold C0;omega
theorem FV{k:Int}{l:List Int}(h1:arity k≠0)(h2:l.length=arity k)(h9:k≠9)(h3: ∀a∈l,0≤a∧a<40):(Fct.mk k l false [] []).Rt:=by
 have hl:l.length≤8:=by
  rw[h2];unfold arity;split
  ·omega
  ·split
   ·omega
   ·split
    ·omega
    ·split<;>omega
 refine Fct.Rt.of (jdW k l (by omega)) h1 h2 h3 ?_
 rw[if_neg h9]
 exact⟨rfl,rfl,rfl⟩
theorem K4{k:Int}{p q:Int×Int}(hk:k=2∨k=3∨k=4)(p1:0≤p.1∧p.1<40)(p2:0≤p.2∧p.2<40)(q1:0≤q.1∧q.1<40)(q2:0≤q.2∧q.2<40):(Gt k p q).Rt:=by
 unfold Gt;split
 ·refine FV (by rcases hk with rfl|rfl|rfl<;>decide) (by rcases hk with rfl|rfl|rfl<;>rfl) (by omega) ?_
  simp[p1,p2,q1,q2]
 ·refine FV (by rcases hk with rfl|rfl|rfl<;>decide) (by rcases hk with rfl|rfl|rfl<;>rfl) (by omega) ?_
  simp[p1,p2,q1,q2]
theorem LP{f:Fct}(h:f.Rt):(normG f).Rt:=by
 obtain⟨h1,h2,h3,h4⟩:=h.parts
 obtain⟨la,ld,oa,od,ln⟩:=h.mild
 obtain⟨k,l,n,m,d⟩:=f
 simp only at*;unfold normG;simp only;by_cases h5:k=5
 ·subst h5;obtain⟨a,b,c,rfl⟩:=Hx (by simpa [arity]using h2)
  simp only[if_true];refine FV (by decide) rfl (by decide) ?_
  have a1:=DH (h3 b (by simp)) (h3 c (by simp))
  have a2:=DB (h3 b (by simp)) (h3 c (by simp))
  have a3:=h3 a (by simp)
  simp[a1,a2,a3]
 rw[if_neg h5]
 by_cases h6:k=2
 ·subst h6;obtain⟨a,b,c,e,rfl⟩:=E6 (by simpa [arity]using h2)
  simp only[if_true];have a1:=DH (h3 a (by simp)) (h3 b (by simp))
  have a2:=DB (h3 a (by simp)) (h3 b (by simp))
  have a3:=DH (h3 c (by simp)) (h3 e (by simp))
  have a4:=DB (h3 c (by simp)) (h3 e (by simp))
  unfold JC Ar;simp only[Nt,MD];generalize lo a b=x at*;generalize hi a b=y at*;generalize lo c e=z at*;generalize hi c e=t at*;have key: ∀l:List Int,l.length=3→(∀a∈l,0≤a∧a<40)→(Fct.mk 1 (CI l) false [] []).Rt:=fun l hl hr=>by
   refine FV (by decide) (by rw[Gf,hl];rfl) (by decide) fun a ha=>hr a ?_
   exact(List.mergeSort_perm _ _).mem_iff.1 ha
  by_cases g1:z=x∨t=x
  ·rw[if_pos g1]
   refine key _ rfl ?_;rcases g1 with rfl|rfl
   ·simp[Nt,a1,a2,a4]
   ·simp[MD,a1,a2,a3]
  ·rw[if_neg g1]
   by_cases g2:z=y∨t=y
   ·rw[if_pos g2]
    refine key _ rfl ?_;rcases g2 with rfl|rfl
    ·simp[Nt,a1,a2,a4]
    ·simp[MD,a1,a2,a3]
   ·rw[if_neg g2]
    exact K4 (by omega) a1 a2 a3 a4
 rw[if_neg h6]
 by_cases h7:k=3∨k=4
 ·obtain⟨a,b,c,e,rfl⟩:=E6 (l:=l) (by rcases h7 with rfl|rfl<;>simpa [arity]using h2)
  rw[if_pos h7]
  exact K4 (by omega) (DH (h3 a (by simp)) (h3 b (by simp))) (DB (h3 a (by simp)) (h3 b (by simp))) (DH (h3 c (by simp)) (h3 e (by simp))) (DB (h3 c (by simp)) (h3 e (by simp)))
 rw[if_neg h7]
 by_cases h8:k=9
 ·subst h8;obtain⟨a,b,c,e,rfl⟩:=E6 (by simpa [arity]using h2)
  rw[if_pos rfl]at h4 ⊢
  simp only;obtain⟨e1,e2,d0,g,hn⟩:=Fu h4 oa od;have a1:=DH (h3 a (by simp)) (h3 b (by simp))
  have a2:=DB (h3 a (by simp)) (h3 b (by simp))
  have a3:=DH (h3 c (by simp)) (h3 e (by simp))
  have a4:=DB (h3 c (by simp)) (h3 e (by simp))
  have lm:(limbs (val m)).length≤4:=by rw[←e1];exact la
  have le:(limbs (val d)).length≤4:=by rw[←e2];exact ld
  have r1:ratOk n (limbs (val m)) (limbs (val d))=true:=by rw[←e1,←e2];exact h4
  have r2:val m≠0→ratOk n (limbs (val d)) (limbs (val m))=true:=fun m0=>by
   unfold ratOk;rw[QF,QF,Ao,Ao];have g':Nat.gcd (val d) (val m)=1:=by rw[Nat.gcd_comm];exact g
   simp[limbs_nil,m0,d0,g']
  have key: ∀(l:List Int) (A B:List Nat),l.length=4→(∀a∈l,0≤a∧a<40)→A.length≤4→B.length≤4→Ok A→Ok B→ratOk n A B=true→(Fct.mk 9 l n A B).Rt:=fun l A B hl hr hA hB oA oB hR=>
   Fct.Rt.of ⟨hA,hB,oA,oB,by simp only;omega⟩ (by simp[arity]) hl hr (by rw[if_pos rfl];exact hR)
  unfold KI Ar;by_cases g1:toZ n (val m)=val d
  ·rw[if_pos g1]
   exact K4 (by omega) a1 a2 a3 a4
  rw[if_neg g1]
  by_cases g2:val m≠0∧BY (lo c e,hi c e) (lo a b,hi a b)<0
  ·rw[if_pos g2]
   exact key _ _ _ rfl (by simp[a1,a2,a3,a4]) le lm (An _) (An _) (r2 g2.1)
  rw[if_neg g2]
  by_cases g3:val m≠0∧(lo a b,hi a b)=(lo c e,hi c e)∧cmpZ (toZ n (val d)*(val d:Int)) (toZ n (val m)*(val m:Int))<0
  ·rw[if_pos g3]
   exact key _ _ _ rfl (by simp[a1,a2,a3,a4]) le lm (An _) (An _) (r2 g3.1)
  ·rw[if_neg g3]
   exact key _ _ _ rfl (by simp[a1,a2,a3,a4]) lm le (An _) (An _) r1
 rw[if_neg h8]
 by_cases h9:k=7
 ·subst h9;obtain⟨a,b,c,e,a',b',c',e',rfl⟩:=Jz (by simpa [arity]using h2)
  rw[if_pos rfl]
  simp only;have a1:=DH (h3 a (by simp)) (h3 b (by simp))
  have a2:=DB (h3 a (by simp)) (h3 b (by simp))
  have a3:=DH (h3 c (by simp)) (h3 e (by simp))
  have a4:=DB (h3 c (by simp)) (h3 e (by simp))
  have b1:=DH (h3 a' (by simp)) (h3 b' (by simp))
  have b2:=DB (h3 a' (by simp)) (h3 b' (by simp))
  have b3:=DH (h3 c' (by simp)) (h3 e' (by simp))
  have b4:=DB (h3 c' (by simp)) (h3 e' (by simp))
  have s1: ∀p q:Int×Int,srt2 p q=(p,q)∨srt2 p q=(q,p):=fun p q=>by unfold srt2;split<;>simp
  unfold KU Ar;rcases s1 (lo a b,hi a b) (lo c' e',hi c' e')with x1|x1<;>rcases s1 (lo c e,hi c e) (lo a' b',hi a' b')with x2|x2<;>rw[x1,x2]<;>split<;>exact FV (by decide) rfl (by decide) (by simp[a1,a2,a3,a4,b1,b2,b3,b4])
 ·rw[if_neg h9]
  rw[if_neg h8]at h4
  refine FV h1 (by rw[Gf,h2]) h8 fun a ha=>h3 a ((List.mergeSort_perm _ _).mem_iff.1 ha)
def Nl(f g:Fct):Bool:=CU f&&(CU g&&decide (BC (normG f) (normG g)=0))
theorem jeP(f g:Fct)(hf:f.Mild)(hg:g.Mild):CallsF Tryz.prog 30 [.agg f.ds,.agg g.ds] (.u (.c (.d (.bool (Nl f g))))):=by
 have k1:=Kb f hf;have k2:=Kb g hg;have k3:=Hf f hf;have k4:=Hf g hg;have n1:=fun h=>LP (f:=f) ⟨h,hf⟩
 have n2:=fun h=>LP (f:=g) ⟨h,hg⟩
 unfold normF at k3 k4;unfold Nl;cases h1:CU f
 ·rw[h1]at k1
  simp only[Fct.ds]at*;refine Ak (T:=tb) Ah mixed Tryz.func30 rfl (by decide) (Af rfl) rfl ?_;unfold St.init
  simp -implicitDefEqProofs[jJ,-natCast_add,-natCast_mul];refine At M8 MU (by rfl) ?_
  simp -implicitDefEqProofs[jJ,-natCast_add,-natCast_mul]
  (first|refine Ab k1 ?_|refine Aa k1 ?_)
  simp -implicitDefEqProofs[jJ,-natCast_add,-natCast_mul]
 ·cases h2:CU g
  ·rw[h1]at k1
   rw[h2]at k2
   simp only[Fct.ds]at*;refine Ak (T:=tb) Ah mixed Tryz.func30 rfl (by decide) (Af rfl) rfl ?_;unfold St.init
   simp -implicitDefEqProofs[jJ,-natCast_add,-natCast_mul];refine At M8 MU (by rfl) ?_
   simp -implicitDefEqProofs[jJ,-natCast_add,-natCast_mul]
   (first|refine Ab k1 ?_|refine Aa k1 ?_)
   simp -implicitDefEqProofs[jJ,-natCast_add,-natCast_mul]
   (first|refine Ab k2 ?_|refine Aa k2 ?_)
   simp -implicitDefEqProofs[jJ,-natCast_add,-natCast_mul]
  ·have n1:=n1 h1;have n2:=n2 h2;have k5:=Jl (normG f) (normG g) n1.mild n2.mild n1.num n2.num;rw[h1]at k1 k3;rw[h2]at k2 k4;rw[if_pos rfl]at k3 k4;generalize normG f=x at*;generalize normG g=y at*;simp only[Fct.ds,Fct.res]at*;refine Ak (T:=tb) Ah mixed Tryz.func30 rfl (by decide) (Af rfl) rfl ?_;unfold St.init
   simp -implicitDefEqProofs[jJ,-natCast_add,-natCast_mul];refine At M8 MU (by rfl) ?_
   simp -implicitDefEqProofs[jJ,-natCast_add,-natCast_mul]
   (first|refine Ab k1 ?_|refine Aa k1 ?_)
   simp -implicitDefEqProofs[jJ,-natCast_add,-natCast_mul]
   (first|refine Ab k2 ?_|refine Aa k2 ?_)
   simp -implicitDefEqProofs[jJ,-natCast_add,-natCast_mul]
   (first|refine Ab k3 ?_|refine Aa k3 ?_)
   simp -implicitDefEqProofs[jJ,-natCast_add,-natCast_mul]
   (first|refine Ab k4 ?_|refine Aa k4 ?_)
   simp -implicitDefEqProofs[jJ,-natCast_add,-natCast_mul]
   (first|refine Ab k5 ?_|refine Aa k5 ?_)
   simp -implicitDefEqProofs[jJ,-natCast_add,-natCast_mul]
end Go.Va
