/- a part of the proof -/
import Derived.Test.YtljdeoefpialhaaGreatDoorHaw
import Derived.Test.YtljdeoefpialhaaGreatDoorHbh
import Derived.Test.YtljdeoefpialhaaGreatDoorHay
import Derived.Test.YtljdeoefpialhaaGreatDoorHbg
import Derived.Test.YtljdeoefpialhaaGreatDoorHbd
set_option linter.all false
set_option maxHeartbeats 4000000
set_option maxRecDepth 100000
namespace Go.Va
open Int renaming natCast_add → qA, natCast_mul → qB, natCast_emod → qC, natCast_ediv → qD, natCast_pow → qE
open List renaming reduceReplicate → qF
open Go.Proofs
def RB:List (List Nat):=(Ah [0,1,0,7,15,31])
@[simp]def Qk:List Seg:=[.any [] [] (Aq [[2],[5],[3]]),.one,.one,.one]
theorem jgv(na nb:Bool)(a b:List Nat)(ha:Ok a)(hl:a.length≤100000)(hb:Ok b)(hm:b.length≤100000):
  CallsF Tryz.prog 240 [.agg [.bool na,Ad a],.agg [.bool nb,Ad b]] (.u (.agg (BJ (toZ na (val a)+toZ nb (val b))))):=by
 have kA:=R9 a b ha hl hb hm;have kS:=No a b ha (by omega) hb (by omega)
 have kL:=jgx a b ha (by omega) hb (by omega)
 have kS':=No b a hb (by omega) ha (by omega)
 have hlA:(limbs (val a+val b)).length≤1099511627776:=by
  have v1:=Bz a ha;have v2:=Bz b hb;have w1:=Nat.pow_le_pow_right (show 0<65536 by omega) hl
  have w2:=Nat.pow_le_pow_right (show 0<65536 by omega) hm
  have hh: ∀n,n=100000→(limbs (val a+val b)).length≤n+1:=fun n hn=>Ew _ (n+1) (by
   rw[←hn]at w1 w2
   rw[Nat.pow_succ]
   omega)
  have:=hh 100000 rfl
  omega
 have hlS:(limbs (val a - val b)).length≤1099511627776:=by
  have:=CG (Nat.sub_le (val a) (val b))
  have:=Bu a ha
  omega
 have hlS':(limbs (val b - val a)).length≤1099511627776:=by
  have:=CG (Nat.sub_le (val b) (val a))
  have:=Bu b hb
  omega
 generalize val a=m at*;generalize val b=n at*;clear ha hl hb hm;have k1:=E6 na (limbs (m+n)) (Aw _) hlA;have k2:=E6 na (limbs (m - n)) (Aw _) hlS;have k3:=E6 nb (limbs (n - m)) (Aw _) hlS';rw[Az]at k1 k2 k3;clear hlA hlS hlS';by_cases hs:na=nb
 ·subst hs;have e:AU na (m+n)=BJ (toZ na m+toZ na n):=Fo (by unfold toZ;cases na<;>simp<;>omega)
  rw[e]at k1
  unfold BJ at*;generalize toZ na m+toZ na n=z at*;refine cO Tryz.func240 rfl ?_;simp -implicitDefEqProofs[jJ,-qA,-qB,-qC,-qD,-qE];refine AA (Ah [0,1,0,4,0,16,60,127,255]) [.any [] [] (Aq [[2],[14],[2],[16],[3],[18],[17,19]]),.one,.one] (by rfl) ?_
  simp -implicitDefEqProofs[jJ,-qA,-qB,-qC,-qD,-qE]
  (first|refine Ac kA ?_|refine Ae kA ?_)
  simp -implicitDefEqProofs[jJ,-qA,-qB,-qC,-qD,-qE]
  (first|refine Ac k1 ?_|refine Ae k1 ?_)
  simp -implicitDefEqProofs[jJ,-qA,-qB,-qC,-qD,-qE]
 ·by_cases hlt:m<n
  ·have kS':=kS' (by omega)
   have kL:=kL hlt;have e:AU nb (n - m)=BJ (toZ na m+toZ nb n):=Fo (by unfold toZ;cases na<;>cases nb<;>simp at hs ⊢ <;>omega)
   rw[e]at k3
   unfold BJ at*;generalize toZ na m+toZ nb n=z at*;refine cO Tryz.func240 rfl ?_;simp -implicitDefEqProofs[jJ,-qA,-qB,-qC,-qD,-qE,hs]
   (first|refine Ac kL ?_|refine Ae kL ?_)
   simp -implicitDefEqProofs[jJ,-qA,-qB,-qC,-qD,-qE]
   (first|refine Ac kS' ?_|refine Ae kS' ?_)
   simp -implicitDefEqProofs[jJ,-qA,-qB,-qC,-qD,-qE]
   (first|refine Ac k3 ?_|refine Ae k3 ?_)
   simp -implicitDefEqProofs[jJ,-qA,-qB,-qC,-qD,-qE]
  ·have kS:=kS (by omega)
   have e:AU na (m - n)=BJ (toZ na m+toZ nb n):=Fo (by unfold toZ;cases na<;>cases nb<;>simp at hs ⊢ <;>omega)
   rw[e]at k2
   unfold BJ at*;generalize toZ na m+toZ nb n=z at*;refine cO Tryz.func240 rfl ?_;simp -implicitDefEqProofs[jJ,-qA,-qB,-qC,-qD,-qE,hs]
   (first|refine Ac kS ?_|refine Ae kS ?_)
   simp -implicitDefEqProofs[jJ,-qA,-qB,-qC,-qD,-qE]
   (first|refine Ac k2 ?_|refine Ae k2 ?_)
   simp -implicitDefEqProofs[jJ,-qA,-qB,-qC,-qD,-qE]
theorem Jt(z:Int)(d:Nat)(hm:(limbs z.natAbs).length≤900)(hd:(limbs d).length≤900)(h0:d≠0):
  CallsF Tryz.prog 114 [.agg [.bool (decide (z<0)),Ad (limbs z.natAbs)],.c (Ad (limbs d))] (.u (.agg (By (mkRat z d)))):=by
 have hes:=V7 (neg:=decide (z<0)) (m:=z.natAbs) (d:=d) (by omega)
 have hq:=JA (neg:=decide (z<0)) (m:=z.natAbs) (d:=d) h0;rw[Dv]at hq;rw[←hq];clear hq;generalize decide (z<0)=neg at*;generalize z.natAbs=m at*;clear z;have hg0:0<Nat.gcd m d:=Nat.gcd_pos_of_pos_right m (by omega)
 have hgd:Nat.gcd m d≤d:=Nat.le_of_dvd (by omega) (Nat.gcd_dvd_right m d)
 have n1:=CM (limbs d) (Aw _) (by omega)
 have g:=Ku (limbs m) (limbs d) (Aw _) (by omega) (Aw _) (by omega)
 rw[Az,Az]at g
 unfold Eg;rw[←hes];generalize Nat.gcd m d=G at*;have lg:=CG hgd;have q1:=ID (limbs m) (limbs G) (Aw _) (by omega) (Aw _) (by omega) (by rw[Az];omega)
 have q2:=ID (limbs d) (limbs G) (Aw _) (by omega) (Aw _) (by omega) (by rw[Az];omega)
 have lq:=CG (Nat.div_le_self m G);have n2:=IS neg (limbs (m/G)) (Aw _) (by omega)
 rw[Az]at n1 n2
 rw[Az,Az]at q1 q2
 have hne:limbs d≠[]:=fun h=>h0 (limbs_nil.1 h)
 refine cO Tryz.func114 rfl ?_;simp -implicitDefEqProofs[jJ,-qA,-qB,-qC,-qD,-qE]
 (first|refine Ac n1 ?_|refine Ae n1 ?_)
 simp -implicitDefEqProofs[jJ,-qA,-qB,-qC,-qD,-qE,hne]
 (first|refine Ac g ?_|refine Ae g ?_)
 simp -implicitDefEqProofs[jJ,-qA,-qB,-qC,-qD,-qE]
 (first|refine Ac q1 ?_|refine Ae q1 ?_)
 simp -implicitDefEqProofs[jJ,-qA,-qB,-qC,-qD,-qE]
 (first|refine Ac q2 ?_|refine Ae q2 ?_)
 simp -implicitDefEqProofs[jJ,-qA,-qB,-qC,-qD,-qE]
 (first|refine Ac n2 ?_|refine Ae n2 ?_)
 simp -implicitDefEqProofs[jJ,-qA,-qB,-qC,-qD,-qE,AU]
theorem JD{q:Rat}{k:Nat}(hq:Bq q k)(hk:k≤400):CallsF Tryz.prog 180 [.agg (Br q)] (.u (.agg (By q))):=by
 have h:=Jt q.num q.den (by have:=hq.ln;omega) (by have:=hq.ld;omega) q.den_nz
 rw[Rat.mkRat_self]at h
 unfold Br By at*;refine cO Tryz.func180 rfl ?_;simp -implicitDefEqProofs[jJ,-qA,-qB,-qC,-qD,-qE]
 (first|refine Ac h ?_|refine Ae h ?_)
 simp -implicitDefEqProofs[jJ,-qA,-qB,-qC,-qD,-qE]
theorem Xz{q:Rat}{k:Nat}(hq:Bq q k)(hk:k≤400):CallsF Tryz.prog 174 [.agg (Br q)] (.u (.agg (By (-q)))):=by
 have n:=Tw (decide (q.num<0)) (limbs q.num.natAbs) (Aw _) (by have:=hq.ln;omega)
 rw[Az,Up,U1]at n
 have h:=Jt (-q.num) q.den (by rw[Int.natAbs_neg];have:=hq.ln;omega) (by have:=hq.ld;omega) q.den_nz
 rw[←Rat.neg_mkRat,Rat.mkRat_self]at h
 unfold BJ at n;unfold Br By at*;generalize -q.num=z at*;generalize -q=Q at*;refine cO Tryz.func174 rfl ?_;simp -implicitDefEqProofs[jJ,-qA,-qB,-qC,-qD,-qE];refine AA (Ah [0,1,3,0,8,31,63]) [.any [] [] (Aq [[1],[3],[4],[1],[6]]),.one,.one] (by rfl) ?_
 simp -implicitDefEqProofs[jJ,-qA,-qB,-qC,-qD,-qE]
 (first|refine Ac n ?_|refine Ae n ?_)
 simp -implicitDefEqProofs[jJ,-qA,-qB,-qC,-qD,-qE]
 (first|refine Ac h ?_|refine Ae h ?_)
 simp -implicitDefEqProofs[jJ,-qA,-qB,-qC,-qD,-qE]
theorem QD{p:Rat}{d:Nat}:AU (!decide (decide (p.num<0)=false)) (p.num.natAbs*d)=BJ (p.num*d):=by
 refine Fo ?_;have h:=Dv p.num;unfold toZ at*;by_cases h1:p.num<0
 ·simp only[h1,decide_true,if_true]at h ⊢;simp;rw[←Int.neg_mul,h]
 ·simp only[h1,decide_false]at h ⊢;simp at h ⊢;rw[h]
theorem Ys{p q:Rat}{k:Nat}(hp:Bq p k)(hq:Bq q k)(hk:k≤400):CallsF Tryz.prog 173 [.agg (Br p),.agg (Br q)] (.u (.agg (By (p+q)))):=by
 have n1:=JD hp hk;have n2:=JD hq hk;have l1:=hp.ln;have l2:=hp.ld;have l3:=hq.ln;have l4:=hq.ld;have w1:=FM (limbs q.den);have w2:=FM (limbs p.den);have b1:=Cp (limbs p.num.natAbs) (limbs q.den) (Aw _) (Aw _);have b2:=Cp (limbs q.num.natAbs) (limbs p.den) (Aw _) (Aw _);have b3:=Cp (limbs p.den) (limbs q.den) (Aw _) (Aw _);have m1:=EM (decide (p.num<0)) false (limbs p.num.natAbs) (limbs q.den) (Aw _) (by omega) (Aw _) (by omega) (by omega)
 have m2:=EM (decide (q.num<0)) false (limbs q.num.natAbs) (limbs p.den) (Aw _) (by omega) (Aw _) (by omega) (by omega)
 have m3:=MN (limbs p.den) (limbs q.den) (Aw _) (by omega) (Aw _) (by omega)
 rw[Az,Az,QD]at m1 m2
 rw[Az,Az]at m3 b1 b2 b3
 have e1:(p.num*q.den).natAbs=p.num.natAbs*q.den:=by rw[Int.natAbs_mul,Int.natAbs_natCast]
 have e2:(q.num*p.den).natAbs=q.num.natAbs*p.den:=by rw[Int.natAbs_mul,Int.natAbs_natCast]
 have s:=jgv (decide (p.num*q.den<0)) (decide (q.num*p.den<0)) (limbs (p.num*q.den).natAbs) (limbs (q.num*p.den).natAbs) (Aw _) (by rw[e1];omega) (Aw _) (by rw[e2];omega)
 rw[Az,Az,Dv,Dv]at s
 have hz:(limbs (p.num*q.den+q.num*p.den).natAbs).length≤900:=by
  have h1:=Bz _ (Aw (p.num.natAbs*q.den));have h2:=Bz _ (Aw (q.num.natAbs*p.den));rw[Az]at h1 h2;have g1:=Nat.pow_le_pow_right (show 0<65536 by omega) (show(limbs (p.num.natAbs*q.den)).length≤800 by omega)
  have g2:=Nat.pow_le_pow_right (show 0<65536 by omega) (show(limbs (q.num.natAbs*p.den)).length≤800 by omega)
  have:(p.num*q.den+q.num*p.den).natAbs≤(p.num*q.den).natAbs+(q.num*p.den).natAbs:=Int.natAbs_add_le _ _
  rw[e1,e2]at this
  have hh: ∀n,n=800→(limbs (p.num*q.den+q.num*p.den).natAbs).length≤n+1:=fun n hn=>Ew _ (n+1) (by
   rw[←hn]at g1 g2
   rw[Nat.pow_succ]
   omega)
  have:=hh 800 rfl
  omega
 have o:=Jt (p.num*q.den+q.num*p.den) (p.den*q.den) hz (by omega) (Nat.mul_ne_zero p.den_nz q.den_nz)
 rw[←L3]at o
 unfold BJ at m1 m2 s;unfold Br By at*;clear b1 b2 b3 e1 e2 hz l1 l2 l3 l4;generalize p.num*q.den+q.num*p.den=z at*;generalize p.num*q.den=z1 at*;generalize q.num*p.den=z2 at*;generalize p+q=Q at*;generalize hD:p.den*q.den=dd at*;refine cO Tryz.func173 rfl ?_;simp -implicitDefEqProofs[jJ,-qA,-qB,-qC,-qD,-qE];refine AA RB Qk (by rfl) ?_
 simp -implicitDefEqProofs[jJ,-qA,-qB,-qC,-qD,-qE]
 (first|refine Ac n1 ?_|refine Ae n1 ?_)
 simp -implicitDefEqProofs[jJ,-qA,-qB,-qC,-qD,-qE]
 (first|refine Ac n2 ?_|refine Ae n2 ?_)
 simp -implicitDefEqProofs[jJ,-qA,-qB,-qC,-qD,-qE];refine AA (Ah [0,1,0,4,12,31,0,64,0,256,831,2047,4095,0,8192,0,32768,131071,262143,524287]) [.any [] [] (Aq [[2],[9],[3],[11],[12],[10,13],[3],[15],[2],[17],[18],[16,19],[14,20],[2],[22],[3],[24]]),.one,.one,.one] (by rfl) ?_
 simp -implicitDefEqProofs[jJ,-qA,-qB,-qC,-qD,-qE]
 (first|refine Ac w1 ?_|refine Ae w1 ?_)
 simp -implicitDefEqProofs[jJ,-qA,-qB,-qC,-qD,-qE]
 (first|refine Ac m1 ?_|refine Ae m1 ?_)
 simp -implicitDefEqProofs[jJ,-qA,-qB,-qC,-qD,-qE]
 (first|refine Ac w2 ?_|refine Ae w2 ?_)
 simp -implicitDefEqProofs[jJ,-qA,-qB,-qC,-qD,-qE]
 (first|refine Ac m2 ?_|refine Ae m2 ?_)
 simp -implicitDefEqProofs[jJ,-qA,-qB,-qC,-qD,-qE]
 (first|refine Ac s ?_|refine Ae s ?_)
 simp -implicitDefEqProofs[jJ,-qA,-qB,-qC,-qD,-qE]
 (first|refine Ac m3 ?_|refine Ae m3 ?_)
 simp -implicitDefEqProofs[jJ,-qA,-qB,-qC,-qD,-qE]
 (first|refine Ac o ?_|refine Ae o ?_)
 simp -implicitDefEqProofs[jJ,-qA,-qB,-qC,-qD,-qE]
theorem Vq{p q:Rat}{k:Nat}(hp:Bq p k)(hq:Bq q k)(hk:k≤400):CallsF Tryz.prog 101 [.agg (Br p),.agg (Br q)] (.u (.agg (By (p - q)))):=by
 have n:=Xz hq hk;have h:=Ys hp hq.neg hk;rw[←Rat.sub_eq_add_neg]at h;generalize p - q=r at*;generalize -q=Q at*;unfold By Br at*;clear hp hq;refine cO Tryz.func101 rfl ?_;simp -implicitDefEqProofs[jJ,-qA,-qB,-qC,-qD,-qE];refine AA (Ah [0,0,2,7,15]) [.any [] [] (Aq [[2],[3],[6]]),.one,.one] (by rfl) ?_
 simp -implicitDefEqProofs[jJ,-qA,-qB,-qC,-qD,-qE]
 (first|refine Ac n ?_|refine Ae n ?_)
 simp -implicitDefEqProofs[jJ,-qA,-qB,-qC,-qD,-qE]
 (first|refine Ac h ?_|refine Ae h ?_)
 simp -implicitDefEqProofs[jJ,-qA,-qB,-qC,-qD,-qE]
theorem ja9(p q:Rat):AU (!decide (decide (p.num<0)=decide (q.num<0))) (p.num.natAbs*q.num.natAbs)=BJ (p.num*q.num):=by
 refine Fo ?_;rw[←Int.natAbs_mul];unfold toZ;have hm:(p.num*q.num).natAbs=p.num.natAbs*q.num.natAbs:=Int.natAbs_mul _ _;rcases Int.lt_or_le p.num 0 with h1|h1<;>rcases Int.lt_or_le q.num 0 with h2|h2
 ·have:=Int.mul_pos_of_neg_of_neg h1 h2
  simp[h1,h2];omega
 ·have h3: ¬q.num<0:=by omega
  have:=Int.mul_nonpos_of_nonpos_of_nonneg (Int.le_of_lt h1) h2
  simp[h1,h3];omega
 ·have h3: ¬p.num<0:=by omega
  have:=Int.mul_nonpos_of_nonneg_of_nonpos h1 (Int.le_of_lt h2)
  simp[h2,h3];omega
 ·have h3: ¬p.num<0:=by omega
  have h4: ¬q.num<0:=by omega
  have:=Int.mul_nonneg h1 h2
  simp[h3,h4];omega
theorem Vb{p q:Rat}{k:Nat}(hp:Bq p k)(hq:Bq q k)(hk:k≤400):CallsF Tryz.prog 172 [.agg (Br p),.agg (Br q)] (.u (.agg (By (p*q)))):=by
 have l1:=hp.ln;have l2:=hp.ld;have l3:=hq.ln;have l4:=hq.ld;have b1:=Cp (limbs p.num.natAbs) (limbs q.num.natAbs) (Aw _) (Aw _);have b3:=Cp (limbs p.den) (limbs q.den) (Aw _) (Aw _);have m1:=EM (decide (p.num<0)) (decide (q.num<0)) (limbs p.num.natAbs) (limbs q.num.natAbs) (Aw _) (by omega) (Aw _) (by omega) (by omega)
 have m3:=MN (limbs p.den) (limbs q.den) (Aw _) (by omega) (Aw _) (by omega)
 rw[Az,Az,ja9]at m1
 rw[Az,Az]at m3 b1 b3
 have o:=Jt (p.num*q.num) (p.den*q.den) (by rw[Int.natAbs_mul];omega) (by omega) (Nat.mul_ne_zero p.den_nz q.den_nz)
 rw[←LS]at o
 unfold BJ at m1;unfold Br By at*;clear b1 b3 l1 l2 l3 l4;generalize p.num*q.num=z at*;generalize p*q=Q at*;generalize hD:p.den*q.den=dd at*;refine cO Tryz.func172 rfl ?_;simp -implicitDefEqProofs[jJ,-qA,-qB,-qC,-qD,-qE];refine AA (Ah [0,1,0,4,15,0,32,0,128,511,1023,2047]) [.any [] [] (Aq [[2],[5],[3],[7],[6,8],[2],[10],[3],[12]]),.one,.one,.one] (by rfl) ?_
 simp -implicitDefEqProofs[jJ,-qA,-qB,-qC,-qD,-qE]
 (first|refine Ac m1 ?_|refine Ae m1 ?_)
 simp -implicitDefEqProofs[jJ,-qA,-qB,-qC,-qD,-qE]
 (first|refine Ac m3 ?_|refine Ae m3 ?_)
 simp -implicitDefEqProofs[jJ,-qA,-qB,-qC,-qD,-qE]
 (first|refine Ac o ?_|refine Ae o ?_)
 simp -implicitDefEqProofs[jJ,-qA,-qB,-qC,-qD,-qE]
theorem Mb{p q:Rat}{k:Nat}(hp:Bq p k)(hq:Bq q k)(hk:k≤400):CallsF Tryz.prog 99 [.agg (Br p),.agg (Br q)] (.u (.c (.d (.bool (decide (p=q)))))):=by
 have n1:=JD hp hk;have n2:=JD hq hk;have l1:=hp.ln;have l2:=hp.ld;have l3:=hq.ln;have l4:=hq.ld;have w1:=FM (limbs q.den);have w2:=FM (limbs p.den);have b1:=Cp (limbs p.num.natAbs) (limbs q.den) (Aw _) (Aw _);have b2:=Cp (limbs q.num.natAbs) (limbs p.den) (Aw _) (Aw _);have m1:=EM (decide (p.num<0)) false (limbs p.num.natAbs) (limbs q.den) (Aw _) (by omega) (Aw _) (by omega) (by omega)
 have m2:=EM (decide (q.num<0)) false (limbs q.num.natAbs) (limbs p.den) (Aw _) (by omega) (Aw _) (by omega) (by omega)
 rw[Az,Az,QD]at m1 m2
 rw[Az,Az]at b1 b2
 have e1:(p.num*q.den).natAbs=p.num.natAbs*q.den:=by rw[Int.natAbs_mul,Int.natAbs_natCast]
 have e2:(q.num*p.den).natAbs=q.num.natAbs*p.den:=by rw[Int.natAbs_mul,Int.natAbs_natCast]
 have s:=Od (decide (p.num*q.den<0)) (decide (q.num*p.den<0)) (limbs (p.num*q.den).natAbs) (limbs (q.num*p.den).natAbs) (Aw _) (by rw[e1];omega) (Aw _) (by rw[e2];omega)
 rw[Az,Az,Dv,Dv]at s
 have e:=(DP (p.num*q.den) (q.num*p.den)).trans (TG (p:=p) (q:=q));clear b1 b2 e1 e2 l1 l2 l3 l4;unfold BJ at m1 m2;unfold Br By at*;generalize cmpZ (p.num*q.den) (q.num*p.den)=cz at*;generalize p.num*q.den=z1 at*;generalize q.num*p.den=z2 at*;have hC:CallsF Tryz.prog 111 [.agg [.bool (decide (p.num<0)),Ad (limbs p.num.natAbs),Ad (limbs p.den)],.agg [.bool (decide (q.num<0)),Ad (limbs q.num.natAbs),Ad (limbs q.den)]] (.u (.c (.d (.int .i64 cz)))):=by
  clear e;refine cO Tryz.func111 rfl ?_;simp -implicitDefEqProofs[jJ,-qA,-qB,-qC,-qD,-qE];refine AA RB Qk (by rfl) ?_
  simp -implicitDefEqProofs[jJ,-qA,-qB,-qC,-qD,-qE]
  (first|refine Ac n1 ?_|refine Ae n1 ?_)
  simp -implicitDefEqProofs[jJ,-qA,-qB,-qC,-qD,-qE]
  (first|refine Ac n2 ?_|refine Ae n2 ?_)
  simp -implicitDefEqProofs[jJ,-qA,-qB,-qC,-qD,-qE];refine AA (Ah [0,1,0,4,12,31,0,64,0,256,831,2047,4095,8191]) [.any [] [] (Aq [[2],[9],[3],[11],[12],[10,13],[3],[15],[2],[17],[18]]),.one,.one,.one] (by rfl) ?_
  simp -implicitDefEqProofs[jJ,-qA,-qB,-qC,-qD,-qE]
  (first|refine Ac w1 ?_|refine Ae w1 ?_)
  simp -implicitDefEqProofs[jJ,-qA,-qB,-qC,-qD,-qE]
  (first|refine Ac m1 ?_|refine Ae m1 ?_)
  simp -implicitDefEqProofs[jJ,-qA,-qB,-qC,-qD,-qE]
  (first|refine Ac w2 ?_|refine Ae w2 ?_)
  simp -implicitDefEqProofs[jJ,-qA,-qB,-qC,-qD,-qE]
  (first|refine Ac m2 ?_|refine Ae m2 ?_)
  simp -implicitDefEqProofs[jJ,-qA,-qB,-qC,-qD,-qE]
  (first|refine Ac s ?_|refine Ae s ?_)
  simp -implicitDefEqProofs[jJ,-qA,-qB,-qC,-qD,-qE]
 refine cO Tryz.func99 rfl ?_;simp -implicitDefEqProofs[jJ,-qA,-qB,-qC,-qD,-qE]
 (first|refine Ac hC ?_|refine Ae hC ?_)
 simp -implicitDefEqProofs[jJ,-qA,-qB,-qC,-qD,-qE,e]
end Go.Va
namespace Go.Va
open Go.Proofs
def Stp.q(s:Stp):Rat:=mkRat (toZ s.neg (val s.abs)) (val s.den)
theorem Uw{q:Rat}(h:Bq q 2):Bq (1 - q) 3:=by
 rw[Rat.sub_eq_add_neg,L3]
 obtain⟨h1,h2⟩:=h
 rw[Rat.neg_num,Rat.neg_den]
 refine NL ?_ ?_ (Nat.mul_ne_zero (by decide) q.den_nz)
 ·have:((1:Rat).num*(q.den:Int)+ -q.num*((1:Rat).den:Int))=(q.den:Int) - q.num:=by
   have e1:(1:Rat).num=1:=rfl
   have e2:(1:Rat).den=1:=rfl
   rw[e1,e2]
   omega
  rw[this]
  omega
 ·have e2:(1:Rat).den=1:=rfl
  rw[e2]
  omega
theorem Vt(q:Rat):ratOk (decide (q.num<0)) (limbs q.num.natAbs) (limbs q.den)=true:=by
 have hd:=q.den_nz;have hg:=q.reduced;unfold ratOk;rw[J5,J5,Az,Az];have h1: ¬limbs q.den=[]:=fun h=>by
  have h3:=limbs_pos_len.2 (show 0<q.den by omega)
  rw[h]at h3
  cases h3
 have h2: ¬(q.num<0∧limbs q.num.natAbs=[]):=fun⟨h,h'⟩=>by
  have h3:=limbs_pos_len.2 (show 0<q.num.natAbs by omega)
  rw[h']at h3
  cases h3
 have h3:Nat.gcd q.num.natAbs q.den=1:=hg
 simp only[Bool.true_and,Bool.and_true,AR,Bool.not_eq_true',decide_eq_true_eq,Bool.and_eq_false_iff,decide_eq_false_iff_not];refine⟨⟨?_,h1⟩,h3⟩;by_cases h:q.num<0
 ·exact .inr fun h'=>h2 ⟨h,h'⟩
 ·exact .inl h
theorem DK{k:Int}{l:List Int}(h:k≠9)(h1:arity k≠0)(h2:l.length=arity k)(h3: ∀a∈l,0≤a∧a<40):(fc k l).Rt:=CQ h1 h2 h h3
theorem UV{l:List Int}{q:Rat}(h2:l.length=4)(h3: ∀a∈l,0≤a∧a<40)(hq:Bq q 8):(rf l q).Rt:=
 Fct.Rt.of ⟨hq.ln,hq.ld,Aw _,Aw _,by show l.length≤_;omega⟩ (by show arity 9≠0;decide) (by show l.length=arity 9;rw[h2];rfl) h3 (by
  show(if (9:Int)=9 then _ else _)
  rw[if_pos rfl]
  exact Vt q)
theorem WW{x a b:Int}{q:Rat}(hx:0≤x∧x<40)(ha:0≤a∧a<40)(hb:0≤b∧b<40)(hq:Bq q 2): ∀f∈divF x a b q,f.Rt:=by
 intro f hf;have m: ∀{u v w:Int},(0≤u∧u<40)→(0≤v∧v<40)→(0≤w∧w<40)→ ∀y∈[u,v,w],0≤y∧y<40:=by
  intro u v w hu hv hw y hy;simp only[jzn,E8,or_false]at hy;rcases hy with rfl|rfl|rfl<;>assumption
 have m4: ∀{u v w t:Int},(0≤u∧u<40)→(0≤v∧v<40)→(0≤w∧w<40)→(0≤t∧t<40)→ ∀y∈[u,v,w,t],0≤y∧y<40:=by
  intro u v w t hu hv hw ht y hy;simp only[jzn,E8,or_false]at hy;rcases hy with rfl|rfl|rfl|rfl<;>assumption
 unfold divF at hf
 repeat' split at hf
 all_goals simp only[jzn,E8,or_false]at hf
 ·subst hf;exact DK (by decide) (by decide) rfl (m hx ha hb)
 ·subst hf;exact DK (by decide) (by decide) rfl (m hb ha hx)
 ·subst hf;exact DK (by decide) (by decide) rfl (m ha hb hx)
 ·rcases hf with rfl|rfl|rfl
  ·exact DK (by decide) (by decide) rfl (m hx ha hb)
  ·exact UV rfl (m4 ha hx ha hb) ((hq.mul hq).mono (by omega))
  ·exact UV rfl (m4 hb hx ha hb) (((Uw hq).mul (Uw hq)).mono (by omega))
theorem jeV{k x:Int}{l:List Int}{q:Rat}(hx:0≤x∧x<40)(hl: ∀a∈l,0≤a∧a<40)(hq:k=2→Bq q 2): ∀f∈stpF k x l q,f.Rt:=by
 intro f hf;have m: ∀{u:List Int},(∀y∈u,y=x∨y∈l)→ ∀y∈u,0≤y∧y<40:=fun {u} h y hy=>by
  rcases h y hy with rfl|h
  ·exact hx
  ·exact hl y h
 unfold stpF at hf;split at hf
 ·rename_i a b
  split at hf
  ·rename_i hk
   exact WW hx (hl a (by simp)) (hl b (by simp)) (hq hk) f hf
  repeat' split at hf
  all_goals simp only[jzn,E8,or_false]at hf
  all_goals (first|(subst hf;exact DK (by decide) (by decide) rfl (m (by simp)))|(rcases hf with rfl|rfl<;>exact DK (by decide) (by decide) rfl (m (by simp))))
 ·repeat' split at hf
  all_goals simp only[jzn,E8,or_false]at hf
  all_goals (first|(subst hf;exact DK (by decide) (by decide) rfl (m (by simp)))|(rcases hf with rfl|rfl<;>exact DK (by decide) (by decide) rfl (m (by simp)))|(rcases hf with rfl|rfl|rfl<;>exact DK (by decide) (by decide) rfl (m (by simp)))|(rcases hf with rfl|rfl|rfl|rfl<;>exact DK (by decide) (by decide) rfl (m (by simp))))
 ·repeat' split at hf
  all_goals simp only[jzn,E8,or_false]at hf
  all_goals (first|(subst hf;exact DK (by decide) (by decide) rfl (m (by simp)))|(rcases hf with rfl|rfl<;>exact DK (by decide) (by decide) rfl (m (by simp))))
 ·cases hf
theorem Ms(k x:Int)(l:List Int)(q:Rat):(stpF k x l q).length≤4:=by
 unfold stpF divF
 repeat' split
 all_goals simp
def allS(l:List Stp):List Fct:=l.zipIdx.flatMap fun p=>stpF p.1.kind p.2 p.1.args p.1.q
theorem Je{l:List Stp}{i:Nat}(h:i<l.length):allS (l.take (i+1))=allS (l.take i)++stpF l[i].kind i l[i].args l[i].q:=by
 unfold allS;rw[Cr h,List.zipIdx_append,List.flatMap_append];simp[Bs (Nat.le_of_lt h)]
theorem GX(l:List Stp): ∀i,i≤l.length→(allS (l.take i)).length≤4*i
 |0,_=>by simp[allS]
 |i+1,h=>by
  have ih:=GX l i (by omega)
  have:=Ms l[i].kind i l[i].args l[i].q
  rw[Je (by omega),List.length_append]
  omega
theorem Q8(l:List Stp)(hl:l.length≤40)(hs: ∀i (h:i<l.length),(∀a∈l[i].args,0≤a∧a<(i:Int))∧(l[i].kind=2→Bq l[i].q 2)): ∀i,i≤l.length→ ∀f∈allS (l.take i),f.Rt
 |0,_,f,hf=>by simp[allS]at hf
 |i+1,h,f,hf=>by
  rw[Je (by omega)]at hf
  rcases List.mem_append.1 hf with hf|hf
  ·exact Q8 l hl hs i (by omega) f hf
  ·obtain⟨h1,h2⟩:=hs i (by omega)
   exact jeV (by omega) (fun a ha=>by have:=h1 a ha;omega) h2 f hf
end Go.Va
