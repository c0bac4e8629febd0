/- a part of the proof -/
import Derived.Test.YtkajmpgbnbikiaaGreatDoorMbe
import Derived.Test.YtkajmpgbnbikiaaGreatDoorMbi
import Derived.Test.YtkajmpgbnbikiaaGreatDoorMbj
import Derived.Test.YtkajmpgbnbikiaaGreatDoorMba
set_option linter.all false
set_option maxHeartbeats 4000000
set_option maxRecDepth 10000
namespace Go.Va
open Int (natCast_add natCast_mul natCast_emod natCast_ediv natCast_pow)
open Go.Proofs
def QL:List (List Nat):=(Ad [0,1,0,7,15,31])
@[simp]def UX:List Seg:=[.any [] [] (Ap [[2],[5],[3]]),.one,.one,.one]
theorem jip(na nb:Bool)(a b:List Nat)(ha:Ok a)(hl:a.length≤100000)(hb:Ok b)(hm:b.length≤100000):
  CallsF Tryz.prog 329 [.agg [.bool na,Ac a],.agg [.bool nb,Ac b]] (.u (.agg (Bz (toZ na (val a)+toZ nb (val b))))):=by
 have kA:=jbV a b ha hl hb hm;have kS:=LU a b ha hl hb hm;have kL:=Wh a b ha hl hb hm;have kS':=LU b a hb hm ha hl;have hlA:(limbs (val a+val b)).length≤1099511627776:=by
  have v1:=Bn a ha;have v2:=Bn b hb;have w1:=Nat.pow_le_pow_right (show 0<65536 by omega) hl
  have w2:=Nat.pow_le_pow_right (show 0<65536 by omega) hm
  have hh: ∀n,n=100000→(limbs (val a+val b)).length≤n+1:=fun n hn=>EX _ (n+1) (by
   rw[←hn]at w1 w2
   rw[Nat.pow_succ]
   omega)
  have:=hh 100000 rfl
  omega
 have hlS:(limbs (val a - val b)).length≤1099511627776:=by
  have:=Dq (Nat.sub_le (val a) (val b))
  have:=Bg a ha
  omega
 have hlS':(limbs (val b - val a)).length≤1099511627776:=by
  have:=Dq (Nat.sub_le (val b) (val a))
  have:=Bg b hb
  omega
 generalize val a=m at*;generalize val b=n at*;clear ha hl hb hm;have k1:=Hu na (limbs (m+n)) (An _) hlA;have k2:=Hu na (limbs (m - n)) (An _) hlS;have k3:=Hu nb (limbs (n - m)) (An _) hlS';rw[Ao]at k1 k2 k3;clear hlA hlS hlS';by_cases hs:na=nb
 ·subst hs;have e:AO na (m+n)=Bz (toZ na m+toZ na n):=FX (by unfold toZ;cases na<;>simp<;>omega)
  rw[e]at k1
  unfold Bz at*;generalize toZ na m+toZ na n=z at*;refine Ak (T:=tb) Ah mixed Tryz.func329 rfl (by decide) (Af rfl) rfl ?_;unfold St.init
  simp -implicitDefEqProofs[jJ,-natCast_add,-natCast_mul,-natCast_emod,-natCast_ediv,-natCast_pow];refine At (Ad [0,1,0,4,0,16,60,127,255]) [.any [] [] (Ap [[2],[14],[2],[16],[3],[18],[17,19]]),.one,.one] (by rfl) ?_
  simp -implicitDefEqProofs[jJ,-natCast_add,-natCast_mul,-natCast_emod,-natCast_ediv,-natCast_pow]
  (first|refine Ab kA ?_|refine Aa kA ?_)
  simp -implicitDefEqProofs[jJ,-natCast_add,-natCast_mul,-natCast_emod,-natCast_ediv,-natCast_pow]
  (first|refine Ab k1 ?_|refine Aa k1 ?_)
  simp -implicitDefEqProofs[jJ,-natCast_add,-natCast_mul,-natCast_emod,-natCast_ediv,-natCast_pow]
 ·by_cases hlt:m<n
  ·have kS':=kS' (by omega)
   have kL:=kL hlt;have e:AO nb (n - m)=Bz (toZ na m+toZ nb n):=FX (by unfold toZ;cases na<;>cases nb<;>simp at hs ⊢ <;>omega)
   rw[e]at k3
   unfold Bz at*;generalize toZ na m+toZ nb n=z at*;refine Ak (T:=tb) Ah mixed Tryz.func329 rfl (by decide) (Af rfl) rfl ?_;unfold St.init
   simp -implicitDefEqProofs[jJ,-natCast_add,-natCast_mul,-natCast_emod,-natCast_ediv,-natCast_pow,hs]
   (first|refine Ab kL ?_|refine Aa kL ?_)
   simp -implicitDefEqProofs[jJ,-natCast_add,-natCast_mul,-natCast_emod,-natCast_ediv,-natCast_pow]
   (first|refine Ab kS' ?_|refine Aa kS' ?_)
   simp -implicitDefEqProofs[jJ,-natCast_add,-natCast_mul,-natCast_emod,-natCast_ediv,-natCast_pow]
   (first|refine Ab k3 ?_|refine Aa k3 ?_)
   simp -implicitDefEqProofs[jJ,-natCast_add,-natCast_mul,-natCast_emod,-natCast_ediv,-natCast_pow]
  ·have kS:=kS (by omega)
   have e:AO na (m - n)=Bz (toZ na m+toZ nb n):=FX (by unfold toZ;cases na<;>cases nb<;>simp at hs ⊢ <;>omega)
   rw[e]at k2
   unfold Bz at*;generalize toZ na m+toZ nb n=z at*;refine Ak (T:=tb) Ah mixed Tryz.func329 rfl (by decide) (Af rfl) rfl ?_;unfold St.init
   simp -implicitDefEqProofs[jJ,-natCast_add,-natCast_mul,-natCast_emod,-natCast_ediv,-natCast_pow,hs]
   (first|refine Ab kS ?_|refine Aa kS ?_)
   simp -implicitDefEqProofs[jJ,-natCast_add,-natCast_mul,-natCast_emod,-natCast_ediv,-natCast_pow]
   (first|refine Ab k2 ?_|refine Aa k2 ?_)
   simp -implicitDefEqProofs[jJ,-natCast_add,-natCast_mul,-natCast_emod,-natCast_ediv,-natCast_pow]
theorem KG(z:Int)(d:Nat)(hm:(limbs z.natAbs).length≤900)(hd:(limbs d).length≤900)(h0:d≠0):
  CallsF Tryz.prog 139 [.agg [.bool (decide (z<0)),Ac (limbs z.natAbs)],.c (Ac (limbs d))] (.u (.agg (AZ (mkRat z d)))):=by
 have hes:=jai (neg:=decide (z<0)) (m:=z.natAbs) (d:=d) (by omega)
 have hq:=JP (neg:=decide (z<0)) (m:=z.natAbs) (d:=d) h0;rw[DP]at hq;rw[←hq];clear hq;generalize decide (z<0)=neg at*;generalize z.natAbs=m at*;clear z;have hg0:0<Nat.gcd m d:=Nat.gcd_pos_of_pos_right m (by omega)
 have hgd:Nat.gcd m d≤d:=Nat.le_of_dvd (by omega) (Nat.gcd_dvd_right m d)
 have n1:=B6 (limbs d) (An _) (by omega)
 have g:=jgk (limbs m) (limbs d) (An _) hm (An _) hd;rw[Ao,Ao]at g;unfold Ep;rw[←hes];generalize Nat.gcd m d=G at*;have lg:=Dq hgd;have q1:=LI (limbs m) (limbs G) (An _) hm (An _) (by omega) (by rw[Ao];omega)
 have q2:=LI (limbs d) (limbs G) (An _) hd (An _) (by omega) (by rw[Ao];omega)
 have lq:=Dq (Nat.div_le_self m G);have n2:=GW neg (limbs (m/G)) (An _) (by omega)
 rw[Ao]at n1 n2
 rw[Ao,Ao]at q1 q2
 have hne:limbs d≠[]:=fun h=>h0 (limbs_nil.1 h)
 refine Ak (T:=tb) Ah mixed Tryz.func139 rfl (by decide) (Af rfl) rfl ?_;unfold St.init
 simp -implicitDefEqProofs[jJ,-natCast_add,-natCast_mul,-natCast_emod,-natCast_ediv,-natCast_pow]
 (first|refine Ab n1 ?_|refine Aa n1 ?_)
 simp -implicitDefEqProofs[jJ,-natCast_add,-natCast_mul,-natCast_emod,-natCast_ediv,-natCast_pow,hne]
 (first|refine Ab g ?_|refine Aa g ?_)
 simp -implicitDefEqProofs[jJ,-natCast_add,-natCast_mul,-natCast_emod,-natCast_ediv,-natCast_pow]
 (first|refine Ab q1 ?_|refine Aa q1 ?_)
 simp -implicitDefEqProofs[jJ,-natCast_add,-natCast_mul,-natCast_emod,-natCast_ediv,-natCast_pow]
 (first|refine Ab q2 ?_|refine Aa q2 ?_)
 simp -implicitDefEqProofs[jJ,-natCast_add,-natCast_mul,-natCast_emod,-natCast_ediv,-natCast_pow]
 (first|refine Ab n2 ?_|refine Aa n2 ?_)
 simp -implicitDefEqProofs[jJ,-natCast_add,-natCast_mul,-natCast_emod,-natCast_ediv,-natCast_pow,AO]
theorem I3{q:Rat}{k:Nat}(hq:Bq q k)(hk:k≤400):CallsF Tryz.prog 141 [.agg (AS q)] (.u (.agg (AZ q))):=by
 have h:=KG q.num q.den (by have:=hq.ln;omega) (by have:=hq.ld;omega) q.den_nz
 rw[Rat.mkRat_self]at h
 unfold AS AZ at*;refine Ak (T:=tb) Ah mixed Tryz.func141 rfl (by decide) (Af rfl) rfl ?_;unfold St.init
 simp -implicitDefEqProofs[jJ,-natCast_add,-natCast_mul,-natCast_emod,-natCast_ediv,-natCast_pow]
 (first|refine Ab h ?_|refine Aa h ?_)
 simp -implicitDefEqProofs[jJ,-natCast_add,-natCast_mul,-natCast_emod,-natCast_ediv,-natCast_pow]
theorem jhy{q:Rat}{k:Nat}(hq:Bq q k)(hk:k≤400):CallsF Tryz.prog 292 [.agg (AS q)] (.u (.agg (AZ (-q)))):=by
 have n:=ZC (decide (q.num<0)) (limbs q.num.natAbs) (An _) (by have:=hq.ln;omega)
 rw[Ao,P6,Py]at n
 have h:=KG (-q.num) q.den (by rw[Int.natAbs_neg];have:=hq.ln;omega) (by have:=hq.ld;omega) q.den_nz
 rw[←Rat.neg_mkRat,Rat.mkRat_self]at h
 unfold Bz at n;unfold AS AZ at*;generalize -q.num=z at*;generalize -q=Q at*;refine Ak (T:=tb) Ah mixed Tryz.func292 rfl (by decide) (Af rfl) rfl ?_;unfold St.init
 simp -implicitDefEqProofs[jJ,-natCast_add,-natCast_mul,-natCast_emod,-natCast_ediv,-natCast_pow];refine At (Ad [0,1,3,0,8,31,63]) [.any [] [] (Ap [[1],[3],[4],[1],[6]]),.one,.one] (by rfl) ?_
 simp -implicitDefEqProofs[jJ,-natCast_add,-natCast_mul,-natCast_emod,-natCast_ediv,-natCast_pow]
 (first|refine Ab n ?_|refine Aa n ?_)
 simp -implicitDefEqProofs[jJ,-natCast_add,-natCast_mul,-natCast_emod,-natCast_ediv,-natCast_pow]
 (first|refine Ab h ?_|refine Aa h ?_)
 simp -implicitDefEqProofs[jJ,-natCast_add,-natCast_mul,-natCast_emod,-natCast_ediv,-natCast_pow]
theorem NU{p:Rat}{d:Nat}:AO (!decide (decide (p.num<0)=false)) (p.num.natAbs*d)=Bz (p.num*d):=by
 refine FX ?_;have h:=DP p.num;unfold toZ at*;by_cases h1:p.num<0
 ·simp only[h1,decide_true,if_true]at h ⊢;simp;rw[←Int.neg_mul,h]
 ·simp only[h1,decide_false]at h ⊢;simp at h ⊢;rw[h]
theorem jfe{p q:Rat}{k:Nat}(hp:Bq p k)(hq:Bq q k)(hk:k≤400):CallsF Tryz.prog 291 [.agg (AS p),.agg (AS q)] (.u (.agg (AZ (p+q)))):=by
 have n1:=I3 hp hk;have n2:=I3 hq hk;have l1:=hp.ln;have l2:=hp.ld;have l3:=hq.ln;have l4:=hq.ld;have w1:=Js (limbs q.den);have w2:=Js (limbs p.den);have b1:=CO (limbs p.num.natAbs) (limbs q.den) (An _) (An _);have b2:=CO (limbs q.num.natAbs) (limbs p.den) (An _) (An _);have b3:=CO (limbs p.den) (limbs q.den) (An _) (An _);have m1:=IK (decide (p.num<0)) false (limbs p.num.natAbs) (limbs q.den) (An _) (by omega) (An _) (by omega) (by omega)
 have m2:=IK (decide (q.num<0)) false (limbs q.num.natAbs) (limbs p.den) (An _) (by omega) (An _) (by omega) (by omega)
 have m3:=ID (limbs p.den) (limbs q.den) (An _) (by omega) (An _) (by omega)
 rw[Ao,Ao,NU]at m1 m2
 rw[Ao,Ao]at m3 b1 b2 b3
 have e1:(p.num*q.den).natAbs=p.num.natAbs*q.den:=by rw[Int.natAbs_mul,Int.natAbs_natCast]
 have e2:(q.num*p.den).natAbs=q.num.natAbs*p.den:=by rw[Int.natAbs_mul,Int.natAbs_natCast]
 have s:=jip (decide (p.num*q.den<0)) (decide (q.num*p.den<0)) (limbs (p.num*q.den).natAbs) (limbs (q.num*p.den).natAbs) (An _) (by rw[e1];omega) (An _) (by rw[e2];omega)
 rw[Ao,Ao,DP,DP]at s
 have hz:(limbs (p.num*q.den+q.num*p.den).natAbs).length≤900:=by
  have h1:=Bn _ (An (p.num.natAbs*q.den));have h2:=Bn _ (An (q.num.natAbs*p.den));rw[Ao]at h1 h2;have g1:=Nat.pow_le_pow_right (show 0<65536 by omega) (show(limbs (p.num.natAbs*q.den)).length≤800 by omega)
  have g2:=Nat.pow_le_pow_right (show 0<65536 by omega) (show(limbs (q.num.natAbs*p.den)).length≤800 by omega)
  have:(p.num*q.den+q.num*p.den).natAbs≤(p.num*q.den).natAbs+(q.num*p.den).natAbs:=Int.natAbs_add_le _ _
  rw[e1,e2]at this
  have hh: ∀n,n=800→(limbs (p.num*q.den+q.num*p.den).natAbs).length≤n+1:=fun n hn=>EX _ (n+1) (by
   rw[←hn]at g1 g2
   rw[Nat.pow_succ]
   omega)
  have:=hh 800 rfl
  omega
 have o:=KG (p.num*q.den+q.num*p.den) (p.den*q.den) hz (by omega) (Nat.mul_ne_zero p.den_nz q.den_nz)
 rw[←QV]at o
 unfold Bz at m1 m2 s;unfold AS AZ at*;clear b1 b2 b3 e1 e2 hz l1 l2 l3 l4;generalize p.num*q.den+q.num*p.den=z at*;generalize p.num*q.den=z1 at*;generalize q.num*p.den=z2 at*;generalize p+q=Q at*;generalize hD:p.den*q.den=dd at*;refine Ak (T:=tb) Ah mixed Tryz.func291 rfl (by decide) (Af rfl) rfl ?_;unfold St.init
 simp -implicitDefEqProofs[jJ,-natCast_add,-natCast_mul,-natCast_emod,-natCast_ediv,-natCast_pow];refine At QL UX (by rfl) ?_
 simp -implicitDefEqProofs[jJ,-natCast_add,-natCast_mul,-natCast_emod,-natCast_ediv,-natCast_pow]
 (first|refine Ab n1 ?_|refine Aa n1 ?_)
 simp -implicitDefEqProofs[jJ,-natCast_add,-natCast_mul,-natCast_emod,-natCast_ediv,-natCast_pow]
 (first|refine Ab n2 ?_|refine Aa n2 ?_)
 simp -implicitDefEqProofs[jJ,-natCast_add,-natCast_mul,-natCast_emod,-natCast_ediv,-natCast_pow];refine At (Ad [0,1,0,4,12,31,0,64,0,256,831,2047,4095,0,8192,0,32768,131071,262143,524287]) [.any [] [] (Ap [[2],[9],[3],[11],[12],[10,13],[3],[15],[2],[17],[18],[16,19],[14,20],[2],[22],[3],[24]]),.one,.one,.one] (by rfl) ?_
 simp -implicitDefEqProofs[jJ,-natCast_add,-natCast_mul,-natCast_emod,-natCast_ediv,-natCast_pow]
 (first|refine Ab w1 ?_|refine Aa w1 ?_)
 simp -implicitDefEqProofs[jJ,-natCast_add,-natCast_mul,-natCast_emod,-natCast_ediv,-natCast_pow]
 (first|refine Ab m1 ?_|refine Aa m1 ?_)
 simp -implicitDefEqProofs[jJ,-natCast_add,-natCast_mul,-natCast_emod,-natCast_ediv,-natCast_pow]
 (first|refine Ab w2 ?_|refine Aa w2 ?_)
 simp -implicitDefEqProofs[jJ,-natCast_add,-natCast_mul,-natCast_emod,-natCast_ediv,-natCast_pow]
 (first|refine Ab m2 ?_|refine Aa m2 ?_)
 simp -implicitDefEqProofs[jJ,-natCast_add,-natCast_mul,-natCast_emod,-natCast_ediv,-natCast_pow]
 (first|refine Ab s ?_|refine Aa s ?_)
 simp -implicitDefEqProofs[jJ,-natCast_add,-natCast_mul,-natCast_emod,-natCast_ediv,-natCast_pow]
 (first|refine Ab m3 ?_|refine Aa m3 ?_)
 simp -implicitDefEqProofs[jJ,-natCast_add,-natCast_mul,-natCast_emod,-natCast_ediv,-natCast_pow]
 (first|refine Ab o ?_|refine Aa o ?_)
 simp -implicitDefEqProofs[jJ,-natCast_add,-natCast_mul,-natCast_emod,-natCast_ediv,-natCast_pow]
theorem K9{p q:Rat}{k:Nat}(hp:Bq p k)(hq:Bq q k)(hk:k≤400):CallsF Tryz.prog 214 [.agg (AS p),.agg (AS q)] (.u (.agg (AZ (p - q)))):=by
 have n:=jhy hq hk;have h:=jfe hp hq.neg hk;rw[←Rat.sub_eq_add_neg]at h;generalize p - q=r at*;generalize -q=Q at*;unfold AZ AS at*;clear hp hq;refine Ak (T:=tb) Ah mixed Tryz.func214 rfl (by decide) (Af rfl) rfl ?_;unfold St.init
 simp -implicitDefEqProofs[jJ,-natCast_add,-natCast_mul,-natCast_emod,-natCast_ediv,-natCast_pow];refine At (Ad [0,0,2,7,15]) [.any [] [] (Ap [[2],[3],[6]]),.one,.one] (by rfl) ?_
 simp -implicitDefEqProofs[jJ,-natCast_add,-natCast_mul,-natCast_emod,-natCast_ediv,-natCast_pow]
 (first|refine Ab n ?_|refine Aa n ?_)
 simp -implicitDefEqProofs[jJ,-natCast_add,-natCast_mul,-natCast_emod,-natCast_ediv,-natCast_pow]
 (first|refine Ab h ?_|refine Aa h ?_)
 simp -implicitDefEqProofs[jJ,-natCast_add,-natCast_mul,-natCast_emod,-natCast_ediv,-natCast_pow]
theorem YO(p q:Rat):AO (!decide (decide (p.num<0)=decide (q.num<0))) (p.num.natAbs*q.num.natAbs)=Bz (p.num*q.num):=by
 refine FX ?_;rw[←Int.natAbs_mul];unfold toZ;have hm:(p.num*q.num).natAbs=p.num.natAbs*q.num.natAbs:=Int.natAbs_mul _ _;rcases Int.lt_or_le p.num 0 with h1|h1<;>rcases Int.lt_or_le q.num 0 with h2|h2
 ·have:=Int.mul_pos_of_neg_of_neg h1 h2
  simp[h1,h2];omega
 ·have h3: ¬q.num<0:=by omega
  have:=Int.mul_nonpos_of_nonpos_of_nonneg (Int.le_of_lt h1) h2
  simp[h1,h3];omega
 ·have h3: ¬p.num<0:=by omega
  have:=Int.mul_nonpos_of_nonneg_of_nonpos h1 (Int.le_of_lt h2)
  simp[h2,h3];omega
 ·have h3: ¬p.num<0:=by omega
  have h4: ¬q.num<0:=by omega
  have:=Int.mul_nonneg h1 h2
  simp[h3,h4];omega
theorem Rb{p q:Rat}{k:Nat}(hp:Bq p k)(hq:Bq q k)(hk:k≤400):CallsF Tryz.prog 216 [.agg (AS p),.agg (AS q)] (.u (.agg (AZ (p*q)))):=by
 have l1:=hp.ln;have l2:=hp.ld;have l3:=hq.ln;have l4:=hq.ld;have b1:=CO (limbs p.num.natAbs) (limbs q.num.natAbs) (An _) (An _);have b3:=CO (limbs p.den) (limbs q.den) (An _) (An _);have m1:=IK (decide (p.num<0)) (decide (q.num<0)) (limbs p.num.natAbs) (limbs q.num.natAbs) (An _) (by omega) (An _) (by omega) (by omega)
 have m3:=ID (limbs p.den) (limbs q.den) (An _) (by omega) (An _) (by omega)
 rw[Ao,Ao,YO]at m1
 rw[Ao,Ao]at m3 b1 b3
 have o:=KG (p.num*q.num) (p.den*q.den) (by rw[Int.natAbs_mul];omega) (by omega) (Nat.mul_ne_zero p.den_nz q.den_nz)
 rw[←LD]at o
 unfold Bz at m1;unfold AS AZ at*;clear b1 b3 l1 l2 l3 l4;generalize p.num*q.num=z at*;generalize p*q=Q at*;generalize hD:p.den*q.den=dd at*;refine Ak (T:=tb) Ah mixed Tryz.func216 rfl (by decide) (Af rfl) rfl ?_;unfold St.init
 simp -implicitDefEqProofs[jJ,-natCast_add,-natCast_mul,-natCast_emod,-natCast_ediv,-natCast_pow];refine At (Ad [0,1,0,4,15,0,32,0,128,511,1023,2047]) [.any [] [] (Ap [[2],[5],[3],[7],[6,8],[2],[10],[3],[12]]),.one,.one,.one] (by rfl) ?_
 simp -implicitDefEqProofs[jJ,-natCast_add,-natCast_mul,-natCast_emod,-natCast_ediv,-natCast_pow]
 (first|refine Ab m1 ?_|refine Aa m1 ?_)
 simp -implicitDefEqProofs[jJ,-natCast_add,-natCast_mul,-natCast_emod,-natCast_ediv,-natCast_pow]
 (first|refine Ab m3 ?_|refine Aa m3 ?_)
 simp -implicitDefEqProofs[jJ,-natCast_add,-natCast_mul,-natCast_emod,-natCast_ediv,-natCast_pow]
 (first|refine Ab o ?_|refine Aa o ?_)
 simp -implicitDefEqProofs[jJ,-natCast_add,-natCast_mul,-natCast_emod,-natCast_ediv,-natCast_pow]
theorem SZ{q:Rat}{k:Nat}(hq:Bq q k)(hk:k≤400):CallsF Tryz.prog 83 [.agg (AS q)] (.u (.c (.d (.int .i64 (sgnQ q))))):=by
 have n:=I3 hq hk;have s:=jaK (decide (q.num<0)) (limbs q.num.natAbs) (An _) (by have:=hq.ln;omega)
 rw[Ao]at s
 have e:AQ (decide (q.num<0)) q.num.natAbs=sgnQ q:=by
  unfold AQ sgnQ;by_cases h0:q=0
  ·subst h0;simp
  ·have:q.num≠0:=fun h1=>h0 (Rat.num_eq_zero.1 h1)
   have h2: ¬q.num.natAbs=0:=by omega
   rw[if_neg h0,if_neg h2]
   simp
 rw[e]at s
 clear e;unfold AS AZ at*;generalize sgnQ q=z at*;refine Ak (T:=tb) Ah mixed Tryz.func83 rfl (by decide) (Af rfl) rfl ?_;unfold St.init
 simp -implicitDefEqProofs[jJ,-natCast_add,-natCast_mul,-natCast_emod,-natCast_ediv,-natCast_pow]
 (first|refine Ab n ?_|refine Aa n ?_)
 simp -implicitDefEqProofs[jJ,-natCast_add,-natCast_mul,-natCast_emod,-natCast_ediv,-natCast_pow]
 (first|refine Ab s ?_|refine Aa s ?_)
 simp -implicitDefEqProofs[jJ,-natCast_add,-natCast_mul,-natCast_emod,-natCast_ediv,-natCast_pow]
theorem R4{p q:Rat}{k:Nat}(hp:Bq p k)(hq:Bq q k)(hk:k≤400):CallsF Tryz.prog 81 [.agg (AS p),.agg (AS q)] (.u (.c (.d (.bool (decide (p=q)))))):=by
 have n1:=I3 hp hk;have n2:=I3 hq hk;have l1:=hp.ln;have l2:=hp.ld;have l3:=hq.ln;have l4:=hq.ld;have w1:=Js (limbs q.den);have w2:=Js (limbs p.den);have b1:=CO (limbs p.num.natAbs) (limbs q.den) (An _) (An _);have b2:=CO (limbs q.num.natAbs) (limbs p.den) (An _) (An _);have m1:=IK (decide (p.num<0)) false (limbs p.num.natAbs) (limbs q.den) (An _) (by omega) (An _) (by omega) (by omega)
 have m2:=IK (decide (q.num<0)) false (limbs q.num.natAbs) (limbs p.den) (An _) (by omega) (An _) (by omega) (by omega)
 rw[Ao,Ao,NU]at m1 m2
 rw[Ao,Ao]at b1 b2
 have e1:(p.num*q.den).natAbs=p.num.natAbs*q.den:=by rw[Int.natAbs_mul,Int.natAbs_natCast]
 have e2:(q.num*p.den).natAbs=q.num.natAbs*p.den:=by rw[Int.natAbs_mul,Int.natAbs_natCast]
 have s:=jaB (decide (p.num*q.den<0)) (decide (q.num*p.den<0)) (limbs (p.num*q.den).natAbs) (limbs (q.num*p.den).natAbs) (An _) (by rw[e1];omega) (An _) (by rw[e2];omega)
 rw[Ao,Ao,DP,DP]at s
 have e:=(HK (p.num*q.den) (q.num*p.den)).trans (QG (p:=p) (q:=q));clear b1 b2 e1 e2 l1 l2 l3 l4;unfold Bz at m1 m2;unfold AS AZ at*;generalize cmpZ (p.num*q.den) (q.num*p.den)=cz at*;generalize p.num*q.den=z1 at*;generalize q.num*p.den=z2 at*;have hC:CallsF Tryz.prog 138 [.agg [.bool (decide (p.num<0)),Ac (limbs p.num.natAbs),Ac (limbs p.den)],.agg [.bool (decide (q.num<0)),Ac (limbs q.num.natAbs),Ac (limbs q.den)]] (.u (.c (.d (.int .i64 cz)))):=by
  clear e;refine Ak (T:=tb) Ah mixed Tryz.func138 rfl (by decide) (Af rfl) rfl ?_;unfold St.init
  simp -implicitDefEqProofs[jJ,-natCast_add,-natCast_mul,-natCast_emod,-natCast_ediv,-natCast_pow];refine At QL UX (by rfl) ?_
  simp -implicitDefEqProofs[jJ,-natCast_add,-natCast_mul,-natCast_emod,-natCast_ediv,-natCast_pow]
  (first|refine Ab n1 ?_|refine Aa n1 ?_)
  simp -implicitDefEqProofs[jJ,-natCast_add,-natCast_mul,-natCast_emod,-natCast_ediv,-natCast_pow]
  (first|refine Ab n2 ?_|refine Aa n2 ?_)
  simp -implicitDefEqProofs[jJ,-natCast_add,-natCast_mul,-natCast_emod,-natCast_ediv,-natCast_pow];refine At (Ad [0,1,0,4,12,31,0,64,0,256,831,2047,4095,8191]) [.any [] [] (Ap [[2],[9],[3],[11],[12],[10,13],[3],[15],[2],[17],[18]]),.one,.one,.one] (by rfl) ?_
  simp -implicitDefEqProofs[jJ,-natCast_add,-natCast_mul,-natCast_emod,-natCast_ediv,-natCast_pow]
  (first|refine Ab w1 ?_|refine Aa w1 ?_)
  simp -implicitDefEqProofs[jJ,-natCast_add,-natCast_mul,-natCast_emod,-natCast_ediv,-natCast_pow]
  (first|refine Ab m1 ?_|refine Aa m1 ?_)
  simp -implicitDefEqProofs[jJ,-natCast_add,-natCast_mul,-natCast_emod,-natCast_ediv,-natCast_pow]
  (first|refine Ab w2 ?_|refine Aa w2 ?_)
  simp -implicitDefEqProofs[jJ,-natCast_add,-natCast_mul,-natCast_emod,-natCast_ediv,-natCast_pow]
  (first|refine Ab m2 ?_|refine Aa m2 ?_)
  simp -implicitDefEqProofs[jJ,-natCast_add,-natCast_mul,-natCast_emod,-natCast_ediv,-natCast_pow]
  (first|refine Ab s ?_|refine Aa s ?_)
  simp -implicitDefEqProofs[jJ,-natCast_add,-natCast_mul,-natCast_emod,-natCast_ediv,-natCast_pow]
 refine Ak (T:=tb) Ah mixed Tryz.func81 rfl (by decide) (Af rfl) rfl ?_;unfold St.init
 simp -implicitDefEqProofs[jJ,-natCast_add,-natCast_mul,-natCast_emod,-natCast_ediv,-natCast_pow]
 (first|refine Ab hC ?_|refine Aa hC ?_)
 simp -implicitDefEqProofs[jJ,-natCast_add,-natCast_mul,-natCast_emod,-natCast_ediv,-natCast_pow,e]
theorem QR{a b:Pq}{k:Nat}(ha:a.B k)(hb:b.B k)(hk:k≤400):CallsF Tryz.prog 148 [.agg a.ds,.agg b.ds] (.u (.agg (vec a b).rc)):=by
 have k1:=K9 hb.1 ha.1 hk;have k2:=K9 hb.2 ha.2 hk;unfold Pq.ds Pq.rc vec;simp only;unfold AS AZ at*;generalize b.x - a.x=X at*;generalize b.y - a.y=Y at*;simp only[List.cons_append,List.nil_append];refine Ak (T:=tb) Ah mixed Tryz.func148 rfl (by decide) (Af rfl) rfl ?_;unfold St.init
 simp -implicitDefEqProofs[jJ,-natCast_add,-natCast_mul];refine At (Ad [0,1,0,4,15,0,32,0,128,511,1023,2047]) [.any [] [] (Ap [[3],[5],[2],[7],[6,8],[3],[10],[2],[12]]),.one,.one,.one] (by rfl) ?_
 simp -implicitDefEqProofs[jJ,-natCast_add,-natCast_mul]
 (first|refine Ab k1 ?_|refine Aa k1 ?_)
 simp -implicitDefEqProofs[jJ,-natCast_add,-natCast_mul]
 (first|refine Ab k2 ?_|refine Aa k2 ?_)
 simp -implicitDefEqProofs[jJ,-natCast_add,-natCast_mul]
theorem jei{u v:Pq}{k:Nat}(hu:u.B k)(hv:v.B k)(hk:k≤190):CallsF Tryz.prog 147 [.agg u.ds,.agg v.ds] (.u (.agg (AZ (u.cross v)))):=by
 have k1:=Rb hu.1 hv.2 (by omega)
 have k2:=Rb hu.2 hv.1 (by omega)
 have k3:=K9 (hu.1.mul hv.2) (hu.2.mul hv.1) (by omega)
 unfold Pq.ds Pq.cross;unfold AS AZ at*;generalize u.x*v.y - u.y*v.x=Z at*;generalize u.x*v.y=X at*;generalize u.y*v.x=Y at*;simp only[List.cons_append,List.nil_append];refine Ak (T:=tb) Ah mixed Tryz.func147 rfl (by decide) (Af rfl) rfl ?_;unfold St.init
 simp -implicitDefEqProofs[jJ,-natCast_add,-natCast_mul];refine At (Ad [0,1,0,4,15,0,32,0,128,511,1023,2047]) [.any [] [] (Ap [[2],[5],[3],[7],[6,8],[2],[10],[3],[12]]),.one,.one,.one] (by rfl) ?_
 simp -implicitDefEqProofs[jJ,-natCast_add,-natCast_mul]
 (first|refine Ab k1 ?_|refine Aa k1 ?_)
 simp -implicitDefEqProofs[jJ,-natCast_add,-natCast_mul]
 (first|refine Ab k2 ?_|refine Aa k2 ?_)
 simp -implicitDefEqProofs[jJ,-natCast_add,-natCast_mul]
 (first|refine Ab k3 ?_|refine Aa k3 ?_)
 simp -implicitDefEqProofs[jJ,-natCast_add,-natCast_mul]
theorem Oz{a b c d:Pq}{k:Nat}(ha:a.B k)(hb:b.B k)(hc:c.B k)(hd:d.B k)(hk:k≤90):CallsF Tryz.prog 89 [.agg a.ds,.agg b.ds,.agg c.ds,.agg d.ds] (.u (.agg (AZ ((vec a b).cross (vec c d))))):=by
 have k1:=QR ha hb (by omega)
 have k2:=QR hc hd (by omega)
 have k3:=jei (Du ha hb) (Du hc hd) (by omega)
 generalize (vec a b).cross (vec c d)=Z at*;generalize vec a b=u at*;generalize vec c d=v at*;unfold Pq.ds Pq.rc at*;unfold AS AZ at*;simp only[List.cons_append,List.nil_append]at*;refine Ak (T:=tb) Ah mixed Tryz.func89 rfl (by decide) (Af rfl) rfl ?_;unfold St.init
 simp -implicitDefEqProofs[jJ,-natCast_add,-natCast_mul];refine At (Ad [0,0,3,0,0,31,63,127]) [.any [] [] (Ap [[4],[5],[9,10],[6],[7]]),.one,.one,.one] (by rfl) ?_
 simp -implicitDefEqProofs[jJ,-natCast_add,-natCast_mul]
 (first|refine Ab k1 ?_|refine Aa k1 ?_)
 simp -implicitDefEqProofs[jJ,-natCast_add,-natCast_mul]
 (first|refine Ab k2 ?_|refine Aa k2 ?_)
 simp -implicitDefEqProofs[jJ,-natCast_add,-natCast_mul]
 (first|refine Ab k3 ?_|refine Aa k3 ?_)
 simp -implicitDefEqProofs[jJ,-natCast_add,-natCast_mul]
theorem YA{a b:Pq}{k:Nat}(ha:a.B k)(hb:b.B k)(hk:k≤400):CallsF Tryz.prog 88 [.agg a.ds,.agg b.ds] (.u (.c (.d (.bool (decide (a.x=b.x)&&decide (a.y=b.y)))))):=by
 have k1:=R4 ha.1 hb.1 hk;have k2:=R4 ha.2 hb.2 hk;generalize decide (a.x=b.x)=b1 at*;generalize decide (a.y=b.y)=b2 at*;unfold Pq.ds at*;unfold AS at*;simp only[List.cons_append,List.nil_append]at*;refine Ak (T:=tb) Ah mixed Tryz.func88 rfl (by decide) (Af rfl) rfl ?_;unfold St.init
 simp -implicitDefEqProofs[jJ,-natCast_add,-natCast_mul]
 (first|refine Ab k1 ?_|refine Aa k1 ?_)
 cases b1 with
 |true=>
  simp -implicitDefEqProofs[jJ,-natCast_add,-natCast_mul]
  (first|refine Ab k2 ?_|refine Aa k2 ?_)
  simp -implicitDefEqProofs[jJ,-natCast_add,-natCast_mul]
 |false=>simp -implicitDefEqProofs[jJ,-natCast_add,-natCast_mul]
end Go.Va
namespace Go.Va
open Go.Proofs
def C4:List Int→Int
 |[]=>0
 |e::l=>if e=0 then C4 l else e
def EE(n:Int)(gs:List Grd):List Int:=gs.map (errG n)
theorem P5(n:Int)(gs:List Grd):(EE n gs).length=gs.length:=by simp[EE]
theorem TN(n:Int){gs:List Grd}{i:Nat}(h:i<gs.length):(EE n gs)[i]? =some (errG n gs[i]):=by
 simp[EE,h]
theorem SI{α:Type}{l:List α}{i:Nat}{x:α}(h:l[i]? =some x):l.drop i=x::l.drop (i+1):=by
 obtain⟨hi,rfl⟩:=jzg.1 h
 exact AX hi
theorem OB{l:List Int}{i:Nat}{E:Int}(h:l[i]? =some 0)(hE:C4 (l.drop i)=E):C4 (l.drop (i+1))=E:=by
 rw[SI h]at hE
 simpa [C4]using hE
theorem TY{l:List Int}{i:Nat}{E e:Int}(h:l[i]? =some e)(he:e≠0)(hE:C4 (l.drop i)=E):e=E:=by
 rw[SI h]at hE
 simpa [C4,he]using hE
theorem RH{l:List Int}{i:Nat}{E:Int}(h:l.length≤i)(hE:C4 (l.drop i)=E):E=0:=by
 rw[List.drop_eq_nil_of_le h]at hE
 exact hE.symm
end Go.Va
namespace Go.Va
open Int (natCast_add natCast_mul natCast_emod natCast_ediv natCast_pow)
open Go.Proofs
def MA(k:Int):Int:=if k=1 then 2 else if k=2 then 3 else if k=3 then 4 else if k=4 then 0 else -1
theorem jjI(k:Int):CallsF Tryz.prog 109 [.c (.int .i64 k)] (.u (.c (.d (.int .i64 (MA k))))):=by
 unfold MA;refine Ak (T:=tb) Ah mixed Tryz.func109 rfl (by decide) (Af rfl) rfl ?_;unfold St.init
 by_cases h1:k=1
 ·subst h1;simp -implicitDefEqProofs[-Ip,jJ,-natCast_add,-natCast_mul]
 by_cases h2:k=2
 ·subst h2;simp -implicitDefEqProofs[-Ip,jJ,-natCast_add,-natCast_mul]
 by_cases h3:k=3
 ·subst h3;simp -implicitDefEqProofs[-Ip,jJ,-natCast_add,-natCast_mul]
 by_cases h4:k=4
 ·subst h4;simp -implicitDefEqProofs[-Ip,jJ,-natCast_add,-natCast_mul]
 simp -implicitDefEqProofs[-Ip,jJ,-natCast_add,-natCast_mul,h1,h2,h3,h4]
theorem jj9(k:Int)(l:List Int)(n:Int)(hl:l.length≤1000)(hk:k=1∨k=2∨k=3):CallsF Tryz.prog 52 [.c (.int .i64 k),.c (intsD l),.c (.int .i64 n)] (.u (.c (.d (.int .i64 (errG n ⟨k,l⟩))))):=by
 have k1:=jjI k;unfold errG;simp only;obtain⟨an,han⟩: ∃an,an=l.any (EG n):=⟨_,rfl⟩;rw[←han];have e1:MA k=grdN k∧2≤grdN k∧grdN k≤4:=by rcases hk with rfl|rfl|rfl<;>decide
 rw[e1.1]at k1
 obtain⟨_,e2,e3⟩:=e1
 generalize grdN k=m at*;refine Ak (T:=tb) Ah mixed Tryz.func52 rfl (by decide) (Af rfl) rfl ?_;unfold St.init
 simp -implicitDefEqProofs[-Ip,jJ,-natCast_add,-natCast_mul,-List.reduceReplicate]
 (first|refine Ab k1 ?_|refine Aa k1 ?_)
 have e4: ¬m<0:=by omega
 have e5: ¬m= -1:=by omega
 by_cases hm:(l.length:Int)=m
 ·simp -implicitDefEqProofs[-Ip,jJ,-natCast_add,-natCast_mul,-List.reduceReplicate,e4,e5,hm];refine AF (fun k:Nat=>⟨[(8,vI .i64 k),(7,vI .i64 m),(1,vC (.d (intsD l))),(2,vI .i64 n)],[]⟩)
   (fun k=>k≤l.length∧E1 n l k) (fun k=>l.length - k) 0 (by simp[-Ip,Aw,lk,St.le,vI,vC]) ⟨by omega,SQ _ _⟩ ?_
  rintro k ⟨hk,hno⟩
  by_cases h:k<l.length
  ·have g0:l[k]? =some l[k]:=Am h
   have hh:(k:Int)<m:=by omega
   by_cases h5:l[k]<0
   ·have ha:an=true:=han.trans (Ja h (.inl h5))
    simp -implicitDefEqProofs[-Ip,jJ,-natCast_add,-natCast_mul,-List.reduceReplicate,hh,g0,i64,h5,ha,e5,h]
   ·by_cases h6:n≤l[k]
    ·have ha:an=true:=han.trans (Ja h (.inr h6))
     simp -implicitDefEqProofs[-Ip,jJ,-natCast_add,-natCast_mul,-List.reduceReplicate,hh,g0,i64,h5,h6,ha,e5,h]
    ·simp -implicitDefEqProofs[-Ip,jJ,-natCast_add,-natCast_mul,-List.reduceReplicate,hh,g0,i64,h5,h6,h];exact⟨by omega,⟨by omega,T0 h hno h5 h6⟩,by omega⟩
  ·have hk2:k=l.length:=by omega
   subst hk2;have ha:an=false:=han.trans (Qh hno);have hh: ¬(l.length:Int)<m:=by omega
   simp -implicitDefEqProofs[-Ip,jJ,-natCast_add,-natCast_mul,-List.reduceReplicate,ha,hh,e5]
 ·simp -implicitDefEqProofs[-Ip,jJ,-natCast_add,-natCast_mul,-List.reduceReplicate,e4,e5,hm]
theorem V3(g:Grd)(n:Int)(hg:g.args.length≤1000):CallsF Tryz.prog 23 [.agg g.ds,.c (.int .i64 n)] (.u (.c (.d (.int .i64 (errG n g))))):=by
 by_cases hk:g.kind=1∨g.kind=2∨g.kind=3
 ·have k1:=jj9 g.kind g.args n hg hk;obtain⟨k,l⟩:=g;simp only at k1 hk;generalize errG n ⟨k,l⟩=e at*;simp only[Grd.ds];have e1: ¬k<1:=by omega
  have e2: ¬3<k:=by omega
  refine Ak (T:=tb) Ah mixed Tryz.func23 rfl (by decide) (Af rfl) rfl ?_;unfold St.init
  simp -implicitDefEqProofs[-Ip,jJ,-natCast_add,-natCast_mul,-List.reduceReplicate,e1,e2]
  (first|refine Ab k1 ?_|refine Aa k1 ?_)
  simp -implicitDefEqProofs[-Ip,jJ,-natCast_add,-natCast_mul,-List.reduceReplicate]
 ·obtain⟨k,l⟩:=g
  simp only at hk;have e:errG n ⟨k,l⟩=8:=by
   unfold errG;rw[if_pos];simp only[grdN];rw[if_neg (fun h=>hk (.inl h)),if_neg (fun h=>hk (.inr (.inl h))),if_neg (fun h=>hk (.inr (.inr h)))]
  rw[e]
  simp only[Grd.ds];refine Ak (T:=tb) Ah mixed Tryz.func23 rfl (by decide) (Af rfl) rfl ?_;unfold St.init
  by_cases e1:k<1
  ·simp -implicitDefEqProofs[-Ip,jJ,-natCast_add,-natCast_mul,-List.reduceReplicate,e1]
  ·have e2:3<k:=by omega
   simp -implicitDefEqProofs[-Ip,jJ,-natCast_add,-natCast_mul,-List.reduceReplicate,e1,e2]
end Go.Va
