/- a part of the proof -/
import Derived.Test.YtkfdniccmcolgaaGreatQan
set_option linter.all false
set_option maxHeartbeats 4000000
set_option maxRecDepth 10000
namespace Go.Va
open Int (natCast_add natCast_mul natCast_emod natCast_ediv natCast_pow)
open Go.Proofs
theorem Fe(a b:List Nat)(ha:Ok a)(hb:Ok b):(limbs (val a*val b)).length≤a.length+b.length:=by
 apply Uc
 rw[Nat.pow_add]
 exact Nat.mul_lt_mul'' (C3 a ha) (C3 b hb)
theorem KT(a:List Nat):CallsF Tryz.prog 137 [.c (Ab a)] (.u (.agg [.d (.bool false),.d (Ab a)])):=by
 refine Ae (T:=tb) Ad mixed Tryz.func137 rfl (by decide) (Ac rfl) rfl ?_;unfold St.init
 simp -implicitDefEqProofs[jJ,-natCast_add,-natCast_mul]
theorem Hd(neg:Bool)(a b:List Nat)(hb:Ok b)(hm:b.length≤1099511627776)(h0:val b≠0):
  CallsF Tryz.prog 83 [.agg [.bool neg,Ab a,Ab b]] (.tup [.agg [.d (.bool neg),.d (Ab a)],.c (.d (Ab b))]):=by
 refine Ae (T:=tb) Ad mixed Tryz.func83 rfl (by decide) (Ac rfl) rfl ?_;unfold St.init
 simp -implicitDefEqProofs[jJ,-natCast_add,-natCast_mul];refine Aa (QS b hb hm) ?_;have hz:GM (val b)≠0:=fun h=>h0 ((PE _).1 h)
 simp -implicitDefEqProofs[jJ,-natCast_add,-natCast_mul,hz];refine Af (Aj [0,1,0,4,3,31]) [.any [] [] [⟨0,[1],[],[],[]⟩,⟨0,[10],[],[],[]⟩,⟨0,[1],[2],[],[]⟩,⟨0,[12],[2],[],[]⟩,⟨2,[2,11],[],[],[2]⟩],.one] (by rfl) ?_
 simp -implicitDefEqProofs[jJ,-natCast_add,-natCast_mul]
theorem OC(neg:Bool)(a b:List Nat)(ha:Ok a)(hl:a.length≤1099511627776)(hb:Ok b)(hm:b.length≤1099511627776)(h0:val b≠0):
  CallsF Tryz.prog 41 [.agg [.bool neg,Ab a,Ab b]] (.u (.c (.d (.int .i64 (AN neg (val a)))))):=by
 refine Ae (T:=tb) Ad mixed Tryz.func41 rfl (by decide) (Ac rfl) rfl ?_;unfold St.init
 simp -implicitDefEqProofs[jJ,-natCast_add,-natCast_mul];refine Aa (Hd neg a b hb hm h0) ?_;simp -implicitDefEqProofs[jJ,-natCast_add,-natCast_mul];refine Aa (J9 neg a ha hl) ?_;simp -implicitDefEqProofs[jJ,-natCast_add,-natCast_mul]
theorem Fg(a b:Int):Az a b=0↔a=b:=by
 unfold Az;split
 ·simp;omega
 ·split
  ·simp;omega
  ·simp;omega
theorem JY(neg:Bool)(m d:Nat):toZ neg (m*d)=toZ neg m*d:=by
 unfold toZ;split
 ·rw[Int.neg_mul,Int.natCast_mul]
 ·rw[Int.natCast_mul]
theorem UN(neg:Bool)(m d:Nat)(h:d≠0):AN neg (m*d)=AN neg m:=by
 unfold AN;simp[Nat.mul_eq_zero,h]
theorem Pb(na nb:Bool)(a b c d:List Nat)(ha:Ok a)(la:a.length≤1000000)(hb:Ok b)(lb:b.length≤1000000)(hc:Ok c)(lc:c.length≤1000000)(hd:Ok d)(ld:d.length≤1000000)(b0:val b≠0)(d0:val d≠0):
  CallsF Tryz.prog 74 [.agg [.bool na,Ab a,Ab b],.agg [.bool nb,Ab c,Ab d]] (.u (.c (.d (.int .i64 (Az (toZ na (val a)*val d) (toZ nb (val c)*val b)))))):=by
 refine Ae (T:=tb) Ad mixed Tryz.func74 rfl (by decide) (Ac rfl) rfl ?_;unfold St.init
 simp -implicitDefEqProofs[jJ,-natCast_add,-natCast_mul];refine Af (Aj [0,1,0,7,15,31]) [.any [] [] (Ao [[2],[11],[3]]),.one,.one,.one] (by rfl) ?_
 simp -implicitDefEqProofs[jJ,-natCast_add,-natCast_mul];refine Al (OC na a b ha (by omega) hb (by omega) b0) ?_
 simp -implicitDefEqProofs[jJ,-natCast_add,-natCast_mul];refine Aa (OC nb c d hc (by omega) hd (by omega) d0) ?_
 have e1:=UN na (val a) (val d) d0;have e2:=UN nb (val c) (val b) b0;rw[←JY,←JY];have L1:AN na (val a)<AN nb (val c)→Az (toZ na (val a*val d)) (toZ nb (val c*val b))= -1:=fun h=>T5 (by rw[e1,e2];exact h)
 have L2:AN nb (val c)<AN na (val a)→Az (toZ na (val a*val d)) (toZ nb (val c*val b))=1:=fun h=>PB (by rw[e1,e2];exact h)
 have m1:=I4 na false a d ha (by omega) hd (by omega)
 have m2:=I4 nb false c b hc (by omega) hb (by omega)
 have b1:=Fe a d ha hd;have b2:=Fe c b hc hb;have k:=jgc (sg na (val a*val d)) (sg nb (val c*val b)) (limbs (val a*val d)) (limbs (val c*val b)) (Ap _) (by omega) (Ap _) (by omega)
 rw[Am,Am,GH,GH]at k
 have p1:=Hd na a b hb (by omega) b0
 have p2:=Hd nb c d hd (by omega) d0
 have w1:=KT d;have w2:=KT b;clear ha la hb lb hc lc hd ld b0 d0 b1 b2 e1 e2;rcases Int.lt_trichotomy (AN na (val a)) (AN nb (val c))with h|h|h
 ·rw[L1 h]
  have:AN na (val a)≠AN nb (val c):=by omega
  simp -implicitDefEqProofs[jJ,-natCast_add,-natCast_mul,this,h]
 ·simp -implicitDefEqProofs[jJ,-natCast_add,-natCast_mul,h];refine Aa p1 ?_;simp -implicitDefEqProofs[jJ,-natCast_add,-natCast_mul];refine Aa p2 ?_;simp -implicitDefEqProofs[jJ,-natCast_add,-natCast_mul];refine Af (Aj [0,0,2,7,0,0,47,127,255,511]) [.any [] [] (Ao [[7],[10],[32],[31,33],[9],[8],[36]]),.one,.one,.one] (by rfl) ?_
  simp -implicitDefEqProofs[jJ,-natCast_add,-natCast_mul];refine Al w1 ?_;simp -implicitDefEqProofs[jJ,-natCast_add,-natCast_mul];refine Al m1 ?_;simp -implicitDefEqProofs[jJ,-natCast_add,-natCast_mul,AO];refine Al w2 ?_;simp -implicitDefEqProofs[jJ,-natCast_add,-natCast_mul];refine Aa m2 ?_;simp -implicitDefEqProofs[jJ,-natCast_add,-natCast_mul,AO];refine Aa k ?_;simp -implicitDefEqProofs[jJ,-natCast_add,-natCast_mul]
 ·rw[L2 h]
  have h2:AN na (val a)≠AN nb (val c):=by omega
  have h3: ¬AN na (val a)<AN nb (val c):=by omega
  simp -implicitDefEqProofs[jJ,-natCast_add,-natCast_mul,h2,h3]
theorem jen(na nb:Bool)(a b c d:List Nat)(ha:Ok a)(la:a.length≤1000000)(hb:Ok b)(lb:b.length≤1000000)(hc:Ok c)(lc:c.length≤1000000)(hd:Ok d)(ld:d.length≤1000000)(b0:val b≠0)(d0:val d≠0):
  CallsF Tryz.prog 172 [.agg [.bool na,Ab a,Ab b],.agg [.bool nb,Ab c,Ab d]] (.u (.c (.d (.bool (decide (toZ na (val a)*val d=toZ nb (val c)*val b)))))):=by
 refine Ae (T:=tb) Ad mixed Tryz.func172 rfl (by decide) (Ac rfl) rfl ?_;unfold St.init
 have k:=Pb na nb a b c d ha la hb lb hc lc hd ld b0 d0;have e:=Fg (toZ na (val a)*val d) (toZ nb (val c)*val b);clear ha la hb lb hc lc hd ld b0 d0;simp -implicitDefEqProofs[jJ,-natCast_add,-natCast_mul];refine Aa k ?_;simp -implicitDefEqProofs[jJ,-natCast_add,-natCast_mul,e]
theorem Kh:limbs 1=[1]:=rfl
theorem IZ(n:Nat)(hn:n<9223372036854775808):CallsF Tryz.prog 111 [.c (.int .i64 n)] (.u (.agg [.d (.bool false),.d (Ab (limbs n)),.d (Ab (limbs 1))])):=by
 refine Ae (T:=tb) Ad mixed Tryz.func111 rfl (by decide) (Ac rfl) rfl ?_;unfold St.init
 simp -implicitDefEqProofs[jJ,-natCast_add,-natCast_mul];refine Aa (ZC n hn) ?_;simp -implicitDefEqProofs[jJ,-natCast_add,-natCast_mul];refine Aa Me ?_;simp -implicitDefEqProofs[jJ,-natCast_add,-natCast_mul,AO,sg,Kh]
def BR(neg:Bool)(a b:List Nat):Bool:=lastOk a&& !(neg&&decide (a=[]))&& !decide (b=[])&&lastOk b&&decide (Nat.gcd (val a) (val b)=1)
theorem Ec{a:List Nat}(ha:Ok a)(hl:a.length≤4):val a<18446744073709551616:=by
 have:=C3 a ha
 rw[←LM]
 exact Nat.lt_of_lt_of_le this (Nat.pow_le_pow_right (by omega) hl)
theorem KO{n:Nat}:limbs n=[1]↔n=1:=by
 constructor
 ·intro h;have:=Am n;rw[h]at this
  simpa [val]using this.symm
 ·rintro rfl;rfl
theorem jbH(neg:Bool)(a b:List Nat)(ha:Ok a)(hl:a.length≤4)(hb:Ok b)(hm:b.length≤4):
  CallsF Tryz.prog 159 [.agg [.bool neg,Ab a,Ab b]] (.u (.c (.d (.bool (BR neg a b))))):=by
 refine Ae (T:=tb) Ad mixed Tryz.func159 rfl (by decide) (Ac rfl) rfl ?_;unfold St.init
 have k:=X0 neg a (by omega)
 have g:=PM a b ha (by omega) hb (by omega) (Ec ha hl) (Ec hb hm)
 unfold BR;cases hr:(lastOk a&& !(neg&&decide (a=[])))
 ·rw[hr]at k
  simp -implicitDefEqProofs[jJ,-natCast_add,-natCast_mul];refine Aa k ?_;simp -implicitDefEqProofs[jJ,-natCast_add,-natCast_mul]
 ·rw[hr]at k
  rcases Nat.eq_zero_or_pos b.length with h0|h0
  ·have:b=[]:=jzv.1 h0
   subst this;simp -implicitDefEqProofs[jJ,-natCast_add,-natCast_mul];refine Aa k ?_;simp -implicitDefEqProofs[jJ,-natCast_add,-natCast_mul]
  ·obtain⟨n,hn⟩: ∃n,b.length=n+1:=⟨b.length - 1,by omega⟩
   have hne:b≠[]:=fun h=>by rw[h]at hn;simp at hn
   obtain⟨x,hx⟩:=Gp (a:=b) (n:=n) (by omega)
   have hg:b.getLast? =some x:=by rw[List.getLast?_eq_getElem?,hn];simpa using hx
   have e:b[n]'(by omega)=x:=by
    have:=Ai (l:=b) (i:=n) (by omega)
    rw[hx]at this
    exact(AX this).symm
   have o1:=HP b;have o2:=HP (limbs (Nat.gcd (val a) (val b)));have v1:b=[1]→val b=1:=fun h=>by rw[h];rfl
   have hlast:lastOk b= !decide (x=0):=by unfold lastOk;rw[hg];simp
   rw[hlast]
   simp -implicitDefEqProofs[jJ,-natCast_add,-natCast_mul,hn];refine Aa k ?_;simp -implicitDefEqProofs[jJ,-natCast_add,-natCast_mul,hn,hx,u16,e,hne];refine⟨by omega,fun h h'=>absurd h h',fun hx0=> ?_⟩
   refine Aa o1 ?_;by_cases hb1:b=[1]
   ·have e1:Nat.gcd (val a) (val b)=1:=by rw[v1 hb1,Nat.gcd_one_right]
    simp -implicitDefEqProofs[jJ,-natCast_add,-natCast_mul,hb1,hx0];rw[←hb1,e1]
   ·simp -implicitDefEqProofs[jJ,-natCast_add,-natCast_mul,hb1,hx0];refine Aa g ?_;simp -implicitDefEqProofs[jJ,-natCast_add,-natCast_mul];refine Aa o2 ?_;simp -implicitDefEqProofs[jJ,-natCast_add,-natCast_mul,KO]
theorem P6{m d:Nat}:decide (limbs d=[1])=decide (d=1):=by simp[KO]
theorem jh1(neg:Bool)(m d:Nat)(hm:m<18446744073709551616)(hd:d<18446744073709551616)(h0:d≠0)(hg:Nat.gcd m d=1):
  CallsF Tryz.prog 238 [.agg [.bool neg,Ab (limbs m)],.c (Ab (limbs d))] (.u (.agg [.d (.bool (sg neg m)),.d (Ab (limbs m)),.d (Ab (limbs d))])):=by
 refine Ae (T:=tb) Ad mixed Tryz.func238 rfl (by decide) (Ac rfl) rfl ?_;unfold St.init
 have lm:=Br hm;have ld:=Br hd;have n1:=Gh (limbs d) (Ap _) (by omega)
 have n2:=SP neg (limbs m) (Ap _) (by omega)
 have g:=PM (limbs m) (limbs d) (Ap _) (by omega) (Ap _) (by omega) (by rw[Am];exact hm) (by rw[Am];exact hd)
 have o1:=HP (limbs d);have o2:=HP (limbs 1);rw[Am,Am,hg]at g;rw[Am]at n1 n2;simp only[KO]at o1 o2;have hne:limbs d≠[]:=fun h=>h0 (limbs_nil.1 h)
 simp -implicitDefEqProofs[jJ,-natCast_add,-natCast_mul];refine Aa n1 ?_;simp -implicitDefEqProofs[jJ,-natCast_add,-natCast_mul];refine Aa n2 ?_;simp -implicitDefEqProofs[jJ,-natCast_add,-natCast_mul,AO];by_cases hz:m=0
 ·subst hz;have:d=1:=by simpa using hg
  subst this;simp -implicitDefEqProofs[jJ,-natCast_add,-natCast_mul,CZ,Kh];refine Aa Me ?_;simp -implicitDefEqProofs[jJ,-natCast_add,-natCast_mul,sg];rfl
 ·have hne2:limbs m≠[]:=fun h=>hz (limbs_nil.1 h)
  simp -implicitDefEqProofs[jJ,-natCast_add,-natCast_mul,hne,hne2];refine Aa o1 ?_;by_cases h1:d=1
  ·subst h1;simp -implicitDefEqProofs[jJ,-natCast_add,-natCast_mul]
  ·simp -implicitDefEqProofs[jJ,-natCast_add,-natCast_mul,h1];refine Aa g ?_;simp -implicitDefEqProofs[jJ,-natCast_add,-natCast_mul];refine Aa o2 ?_;simp -implicitDefEqProofs[jJ,-natCast_add,-natCast_mul]
theorem EG{neg:Bool}{m:Nat}:AN neg m=0↔m=0:=by
 unfold AN;split
 ·simp[*]
 ·cases neg<;>simp[*]
theorem jbh(na nb:Bool)(m d:Nat)(hm:m<18446744073709551616)(hd:d<18446744073709551616)(hg:Nat.gcd m d=1):
  CallsF Tryz.prog 265 [.agg [.bool na,Ab (limbs m)],.agg [.bool nb,Ab (limbs d)]]
   (if d=0 then .tup [.agg [.d (.bool false),.d (Ab []),.d (Ab [])],.c (.d (.int .i64 3))]
   else .tup [.agg [.d (.bool (sg (!decide (na=nb)) m)),.d (Ab (limbs m)),.d (Ab (limbs d))],.c (.d (.int .i64 0))]):=by
 have ld:=Br hd;have s1:=J9 nb (limbs d) (Ap _) (by omega)
 rw[Am]at s1
 by_cases h0:d=0
 ·rw[if_pos h0]
  refine Ae (T:=tb) Ad mixed Tryz.func265 rfl (by decide) (Ac rfl) rfl ?_;unfold St.init
  simp -implicitDefEqProofs[jJ,-natCast_add,-natCast_mul];refine Aa s1 ?_;simp -implicitDefEqProofs[jJ,-natCast_add,-natCast_mul,EG,h0];rfl
 ·rw[if_neg h0]
  refine Ae (T:=tb) Ad mixed Tryz.func265 rfl (by decide) (Ac rfl) rfl ?_;unfold St.init
  simp -implicitDefEqProofs[jJ,-natCast_add,-natCast_mul];refine Aa s1 ?_;simp -implicitDefEqProofs[jJ,-natCast_add,-natCast_mul,EG,h0];refine Aa (jh1 (!decide (na=nb)) m d hm hd h0 hg) ?_;simp -implicitDefEqProofs[jJ,-natCast_add,-natCast_mul]
theorem Oh(neg:Bool)(m d:Nat)(hm:m<18446744073709551616)(hd:d<18446744073709551616)(d0:d≠0)(hg:Nat.gcd m d=1):
  CallsF Tryz.prog 225 [.agg [.bool false,Ab (limbs 1),Ab (limbs 1)],.agg [.bool neg,Ab (limbs m),Ab (limbs d)]]
   (if m=0 then .tup [.agg [.d (.bool false),.d (Ab []),.d (Ab [])],.c (.d (.int .i64 3))]
   else .tup [.agg [.d (.bool neg),.d (Ab (limbs d)),.d (Ab (limbs m))],.c (.d (.int .i64 0))]):=by
 have lm:=Br hm;have ld:=Br hd;have l1:(limbs 1).length=1:=rfl;have p1:=Hd false (limbs 1) (limbs 1) (Ap _) (by omega) (by rw[Am];omega)
 have p2:=Hd neg (limbs m) (limbs d) (Ap _) (by omega) (by rw[Am];exact d0)
 have m1:=I4 false false (limbs 1) (limbs d) (Ap _) (by omega) (Ap _) (by omega)
 have m2:=I4 neg false (limbs m) (limbs 1) (Ap _) (by omega) (Ap _) (by omega)
 rw[Am,Am,Nat.one_mul]at m1
 rw[Am,Am,Nat.mul_one]at m2
 have k:=jbh (sg false d) (sg neg m) d m hd hm (by rw[Nat.gcd_comm];exact hg)
 have e1:sg (!decide (sg false d=sg neg m)) d=(neg&&decide (0<m)):=by
  have:0<d:=by omega
  cases neg<;>by_cases hz:m=0<;>simp[sg,this,hz]<;>omega
 rw[e1]at k
 refine Ae (T:=tb) Ad mixed Tryz.func225 rfl (by decide) (Ac rfl) rfl ?_;unfold St.init
 simp -implicitDefEqProofs[jJ,-natCast_add,-natCast_mul];refine Aa p1 ?_;simp -implicitDefEqProofs[jJ,-natCast_add,-natCast_mul];refine Aa p2 ?_;simp -implicitDefEqProofs[jJ,-natCast_add,-natCast_mul];refine Af (Aj [0,0,2,7,0,0,47,127,255,511,511,2047,4095]) [.any [] [] (Ao [[6],[9],[21],[20,22],[8],[7],[25]]),.one,.one,.any [] [] (Ao [[28],[28]]),.one,.one] (by rfl) ?_
 simp -implicitDefEqProofs[jJ,-natCast_add,-natCast_mul];refine Al (KT (limbs d)) ?_;simp -implicitDefEqProofs[jJ,-natCast_add,-natCast_mul];refine Al m1 ?_;simp -implicitDefEqProofs[jJ,-natCast_add,-natCast_mul,AO];refine Al (KT (limbs 1)) ?_;simp -implicitDefEqProofs[jJ,-natCast_add,-natCast_mul];refine Aa m2 ?_;simp -implicitDefEqProofs[jJ,-natCast_add,-natCast_mul,AO];refine Aa k ?_;by_cases h0:m=0
 ·simp -implicitDefEqProofs[jJ,-natCast_add,-natCast_mul,h0]
 ·have:0<m:=by omega
  simp -implicitDefEqProofs[jJ,-natCast_add,-natCast_mul,h0,this]
theorem LI(a:List Nat):CallsF Tryz.prog 92 [.c (Ab a)] (.u (.agg [.d (.bool false),.d (Ab a)])):=by
 refine Ae (T:=tb) Ad mixed Tryz.func92 rfl (by decide) (Ac rfl) rfl ?_;unfold St.init
 simp -implicitDefEqProofs[jJ,-natCast_add,-natCast_mul]
theorem KZ(neg:Bool)(m d:Nat)(hm:m<18446744073709551616)(hd:d<18446744073709551616)(h0:d≠0)(hg:Nat.gcd m d=1):
  CallsF Tryz.prog 45 [.agg [.bool neg,Ab (limbs m)],.c (Ab (limbs d))] (.u (.agg [.d (.bool (sg neg m)),.d (Ab (limbs m)),.d (Ab (limbs d))])):=by
 refine Ae (T:=tb) Ad mixed Tryz.func45 rfl (by decide) (Ac rfl) rfl ?_;unfold St.init
 have lm:=Br hm;have ld:=Br hd;have n1:=GB (limbs d) (Ap _) (by omega)
 have g:=OA (limbs m) (limbs d) (Ap _) (by omega) (Ap _) (by omega) (by rw[Am];exact hm) (by rw[Am];exact hd)
 have q1:=Ja (limbs m) (limbs 1) (Ap _) (by omega) (Ap _) (by decide) (by rw[Am];exact hm) (by rw[Am];omega) (by rw[Am];omega)
 have q2:=Ja (limbs d) (limbs 1) (Ap _) (by omega) (Ap _) (by decide) (by rw[Am];exact hd) (by rw[Am];omega) (by rw[Am];omega)
 have n2:=I8 neg (limbs m) (Ap _) (by omega)
 rw[Am,Am,hg]at g
 rw[Am]at n1 n2
 rw[Am,Am,Nat.div_one,Nat.mod_one]at q1 q2
 have hne:limbs d≠[]:=fun h=>h0 (limbs_nil.1 h)
 simp -implicitDefEqProofs[jJ,-natCast_add,-natCast_mul];refine Aa n1 ?_;simp -implicitDefEqProofs[jJ,-natCast_add,-natCast_mul,hne];refine Aa g ?_;simp -implicitDefEqProofs[jJ,-natCast_add,-natCast_mul];refine Aa q1 ?_;simp -implicitDefEqProofs[jJ,-natCast_add,-natCast_mul];refine Aa q2 ?_;simp -implicitDefEqProofs[jJ,-natCast_add,-natCast_mul];refine Aa n2 ?_;simp -implicitDefEqProofs[jJ,-natCast_add,-natCast_mul,AO]
theorem JJ(neg:Bool)(m d:Nat)(hm:m<18446744073709551616)(hd:d<18446744073709551616)(h0:d≠0)(hg:Nat.gcd m d=1):
  CallsF Tryz.prog 89 [.agg [.bool neg,Ab (limbs m),Ab (limbs d)]] (.u (.agg [.d (.bool (sg neg m)),.d (Ab (limbs m)),.d (Ab (limbs d))])):=by
 refine Ae (T:=tb) Ad mixed Tryz.func89 rfl (by decide) (Ac rfl) rfl ?_;unfold St.init
 simp -implicitDefEqProofs[jJ,-natCast_add,-natCast_mul];refine Aa (KZ neg m d hm hd h0 hg) ?_;simp -implicitDefEqProofs[jJ,-natCast_add,-natCast_mul]
theorem MF(na nb:Bool)(m d n e:Nat)(hm:m<18446744073709551616)(hd:d<18446744073709551616)(h0:d≠0)(hg:Nat.gcd m d=1)(hn:n<18446744073709551616)(he:e<18446744073709551616)(e0:e≠0)(hh:Nat.gcd n e=1):
  CallsF Tryz.prog 44 [.agg [.bool na,Ab (limbs m),Ab (limbs d)],.agg [.bool nb,Ab (limbs n),Ab (limbs e)]] (.u (.c (.d (.int .i64 (Az (toZ na m*e) (toZ nb n*d)))))):=by
 refine Ae (T:=tb) Ad mixed Tryz.func44 rfl (by decide) (Ac rfl) rfl ?_;unfold St.init
 have lm:=Br hm;have ld:=Br hd;have ln:=Br hn;have le:=Br he;have b1:=Fe (limbs m) (limbs e) (Ap _) (Ap _);have b2:=Fe (limbs n) (limbs d) (Ap _) (Ap _);have m1:=Jt (sg na m) false (limbs m) (limbs e) (Ap _) (by omega) (Ap _) (by omega) (by omega)
 have m2:=Jt (sg nb n) false (limbs n) (limbs d) (Ap _) (by omega) (Ap _) (by omega) (by omega)
 rw[Am,Am]at m1 m2 b1 b2
 have k:=ja1 (sg (sg na m) (m*e)) (sg (sg nb n) (n*d)) (limbs (m*e)) (limbs (n*d)) (Ap _) (by omega) (Ap _) (by omega)
 rw[Am,Am,GH,GH,JY,JY,GH,GH]at k
 simp -implicitDefEqProofs[jJ,-natCast_add,-natCast_mul];refine Af (Aj [0,1,0,7,15,31]) [.any [] [] (Ao [[2],[5],[3]]),.one,.one,.one] (by rfl) ?_
 simp -implicitDefEqProofs[jJ,-natCast_add,-natCast_mul];refine Al (JJ na m d hm hd h0 hg) ?_;simp -implicitDefEqProofs[jJ,-natCast_add,-natCast_mul];refine Aa (JJ nb n e hn he e0 hh) ?_;simp -implicitDefEqProofs[jJ,-natCast_add,-natCast_mul];refine Af (Aj [0,1,0,4,12,31,0,64,0,256,831,2047,4095,8191]) [.any [] [] (Ao [[2],[9],[3],[11],[12],[10,13],[3],[15],[2],[17],[18]]),.one,.one,.one] (by rfl) ?_
 simp -implicitDefEqProofs[jJ,-natCast_add,-natCast_mul];refine Al (LI (limbs e)) ?_;simp -implicitDefEqProofs[jJ,-natCast_add,-natCast_mul];refine Al m1 ?_;simp -implicitDefEqProofs[jJ,-natCast_add,-natCast_mul,AO];refine Al (LI (limbs d)) ?_;simp -implicitDefEqProofs[jJ,-natCast_add,-natCast_mul];refine Aa m2 ?_;simp -implicitDefEqProofs[jJ,-natCast_add,-natCast_mul,AO];refine Aa k ?_;simp -implicitDefEqProofs[jJ,-natCast_add,-natCast_mul]
theorem TO(na nb:Bool)(m d n e:Nat)(hm:m<18446744073709551616)(hd:d<18446744073709551616)(h0:d≠0)(hg:Nat.gcd m d=1)(hn:n<18446744073709551616)(he:e<18446744073709551616)(e0:e≠0)(hh:Nat.gcd n e=1):
  CallsF Tryz.prog 27 [.agg [.bool na,Ab (limbs m),Ab (limbs d)],.agg [.bool nb,Ab (limbs n),Ab (limbs e)]] (.u (.c (.d (.bool (decide (toZ na m*e=toZ nb n*d)))))):=by
 refine Ae (T:=tb) Ad mixed Tryz.func27 rfl (by decide) (Ac rfl) rfl ?_;unfold St.init
 have k:=MF na nb m d n e hm hd h0 hg hn he e0 hh;have e:=Fg (toZ na m*e) (toZ nb n*d);simp -implicitDefEqProofs[jJ,-natCast_add,-natCast_mul];refine Aa k ?_;simp -implicitDefEqProofs[jJ,-natCast_add,-natCast_mul,e]
theorem GZ(n:Nat)(hn:n<9223372036854775808):CallsF Tryz.prog 28 [.c (.int .i64 n)] (.u (.agg [.d (.bool false),.d (Ab (limbs n)),.d (Ab (limbs 1))])):=by
 refine Ae (T:=tb) Ad mixed Tryz.func28 rfl (by decide) (Ac rfl) rfl ?_;unfold St.init
 simp -implicitDefEqProofs[jJ,-natCast_add,-natCast_mul];refine Aa (jge n hn) ?_;simp -implicitDefEqProofs[jJ,-natCast_add,-natCast_mul,AO];refine Aa (JG 1 (by omega)) ?_
 simp -implicitDefEqProofs[jJ,-natCast_add,-natCast_mul];have k:=KZ (sg false n) n 1 (by omega) (by omega) (by omega) (Nat.gcd_one_right n)
 refine Aa k ?_;simp -implicitDefEqProofs[jJ,-natCast_add,-natCast_mul,sg]
theorem ZA{m n:Nat}(hm:m<18446744073709551616)(hn:n<18446744073709551616):Nat.gcd m n<18446744073709551616:=by
 rcases Nat.eq_zero_or_pos n with h|h
 ·subst h;rw[Nat.gcd_zero_right];exact hm
 ·exact Nat.lt_of_le_of_lt (Nat.gcd_le_right m h) hn
theorem jfi(neg:Bool)(a b:List Nat)(ha:Ok a)(hl:a.length≤4)(hb:Ok b)(hm:b.length≤4):
  CallsF Tryz.prog 80 [.agg [.bool neg,Ab a,Ab b]] (.u (.c (.d (.bool (BR neg a b))))):=by
 refine Ae (T:=tb) Ad mixed Tryz.func80 rfl (by decide) (Ac rfl) rfl ?_;unfold St.init
 have k:=Yi neg a (by omega)
 have v:=Ql b (by omega)
 have g:=OA a b ha (by omega) hb (by omega) (Ec ha hl) (Ec hb hm)
 have s:=W8 (limbs (Nat.gcd (val a) (val b))) (limbs 1) (by have:=Br (ZA (Ec ha hl) (Ec hb hm));omega)
 unfold BR;cases hr:(lastOk a&& !(neg&&decide (a=[])))
 ·rw[hr]at k
  simp -implicitDefEqProofs[jJ,-natCast_add,-natCast_mul];refine Aa k ?_;simp -implicitDefEqProofs[jJ,-natCast_add,-natCast_mul]
 ·rw[hr]at k
  simp -implicitDefEqProofs[jJ,-natCast_add,-natCast_mul];refine Aa k ?_;simp -implicitDefEqProofs[jJ,-natCast_add,-natCast_mul];refine Aa v ?_;cases hv:lastOk b
  ·simp -implicitDefEqProofs[jJ,-natCast_add,-natCast_mul]
  ·simp -implicitDefEqProofs[jJ,-natCast_add,-natCast_mul];refine Aa g ?_;simp -implicitDefEqProofs[jJ,-natCast_add,-natCast_mul];refine Aa (JG 1 (by omega)) ?_
   simp -implicitDefEqProofs[jJ,-natCast_add,-natCast_mul];refine Aa s ?_;simp -implicitDefEqProofs[jJ,-natCast_add,-natCast_mul];simp only[Kh,KO];refine⟨fun h1=> ?_,fun h1 _ h2=>h1 h2⟩
   cases b<;>simp[h1]
theorem QN(a:Int):CallsF Tryz.prog 134 [.c (.int .i64 a)] (.u (.c (.d (.bool false)))):=by
 refine Ae (T:=tb) Ad mixed Tryz.func134 rfl (by decide) (Ac rfl) rfl ?_;unfold St.init
 simp -implicitDefEqProofs[jJ,-natCast_add,-natCast_mul]
theorem II(a b:Int):CallsF Tryz.prog 72 [.c (.int .i64 a),.c (.int .i64 b)] (.u (.c (.d (.int .i64 (Az a b))))):=by
 refine Ae (T:=tb) Ad mixed Tryz.func72 rfl (by decide) (Ac rfl) rfl ?_;unfold St.init
 simp -implicitDefEqProofs[jJ,-natCast_add,-natCast_mul];refine Aa (QN a) ?_;simp -implicitDefEqProofs[jJ,-natCast_add,-natCast_mul];refine Aa (QN b) ?_;simp -implicitDefEqProofs[jJ,-natCast_add,-natCast_mul];unfold Az;refine⟨fun h=>by rw[if_pos h],fun h=>⟨fun h2=>by rw[if_neg (by omega),if_pos h2],fun h2=>by rw[if_neg (by omega),if_neg (by omega)]⟩⟩
def Bm:List Int→Int
 |[]=>0
 |a::l=>if a=0 then Bm l else a
theorem jcw{l:List Int}{i:Nat}(h:i<l.length):Bm (l.drop i)=if l[i]=0 then Bm (l.drop (i+1)) else l[i]:=by
 rw[AD h]
 rfl
theorem K2(l:List Int)(hl:l.length≤1099511627776):CallsF Tryz.prog 71 [.c (intsD l)] (.u (.c (.d (.int .i64 (Bm l))))):=by
 refine Ae (T:=tb) Ad mixed Tryz.func71 rfl (by decide) (Ac rfl) rfl ?_;unfold St.init
 simp -implicitDefEqProofs[jJ,-natCast_add,-natCast_mul];refine Av (fun i:Nat=>⟨[(8,vI .i64 i),(7,vI .i64 l.length),(6,vC (.d (intsD l))),(3,vI .i64 0)],[]⟩) (fun i=>i≤l.length∧Bm (l.drop i)=Bm l) (fun i=>l.length - i) 0 (by simp) ⟨by omega,rfl⟩ ?_
 rintro i ⟨h1,h2⟩
 by_cases h:i<l.length
 ·have e:=jcw h;by_cases h0:l[i]=0
  ·rw[h0]at e
   simp -implicitDefEqProofs[jJ,-natCast_add,-natCast_mul,h,h0,i64];rw[if_pos rfl]at e;exact⟨by omega,⟨by omega,by rw[←e,h2]⟩,by omega⟩
  ·simp -implicitDefEqProofs[jJ,-natCast_add,-natCast_mul,h,h0,i64];rw[←h2,e,if_neg h0]
 ·have:i=l.length:=by omega
  subst this;simp -implicitDefEqProofs[jJ,-natCast_add,-natCast_mul];rw[List.drop_length]at h2;exact h2
def AL:List Int→List Int→Int
 |[],[]=>0
 |[],_::_=> -1
 |_::_,[]=>1
 |a::x,b::y=>if Az a b=0 then AL x y else Az a b
theorem Ue(y:List Int):AL [] y=if 0<y.length then -1 else 0:=by cases y<;>simp[AL]
theorem WJ{x y:List Int}{i:Nat}(h:i<x.length)(hy:i<y.length):AL (x.drop i) (y.drop i)=if Az x[i] y[i]=0 then AL (x.drop (i+1)) (y.drop (i+1)) else Az x[i] y[i]:=by
 rw[AD h,AD hy]
 rfl
theorem Yn{x y:List Int}{i:Nat}(h:i<x.length)(hy:i=y.length):AL (x.drop i) (y.drop i)=1:=by
 subst hy;rw[AD h,List.drop_length];rfl
theorem HQ(x y:List Int)(hx:x.length≤1099511627776)(hy:y.length≤1099511627776):CallsF Tryz.prog 73 [.c (intsD x),.c (intsD y)] (.u (.c (.d (.int .i64 (AL x y))))):=by
 refine Ae (T:=tb) Ad mixed Tryz.func73 rfl (by decide) (Ac rfl) rfl ?_;unfold St.init
 simp -implicitDefEqProofs[jJ,-natCast_add,-natCast_mul];refine Av (fun i:Nat=>⟨[(11,vI .i64 i),(10,vI .i64 x.length),(9,vC (.d (intsD x))),(0,vC (.d (intsD x))),(1,vC (.d (intsD y)))],[]⟩) (fun i=>i≤x.length∧i≤y.length∧AL (x.drop i) (y.drop i)=AL x y) (fun i=>x.length - i) 0 (by simp) ⟨by omega,by omega,rfl⟩ ?_
 rintro i ⟨h1,h3,h2⟩
 by_cases h:i<x.length
 ·by_cases hb:i<y.length
  ·have e:=WJ h hb;have hn: ¬y.length≤i:=by omega
   simp -implicitDefEqProofs[jJ,-natCast_add,-natCast_mul,h,hb,hn,i64];refine Aa (II x[i] y[i]) ?_;by_cases h0:Az x[i] y[i]=0
   ·rw[if_pos h0]at e
    simp -implicitDefEqProofs[jJ,-natCast_add,-natCast_mul,h0];exact⟨by omega,⟨by omega,by omega,by rw[←e,h2]⟩,by omega⟩
   ·rw[if_neg h0]at e
    simp -implicitDefEqProofs[jJ,-natCast_add,-natCast_mul,h0];rw[←h2,e]
  ·have e:i=y.length:=by omega
   have e2:=Yn h e;rw[h2]at e2;have hn:y.length≤i:=by omega
   simp -implicitDefEqProofs[jJ,-natCast_add,-natCast_mul,h,hn,i64];rw[e2]
 ·have:i=x.length:=by omega
  subst this;rw[List.drop_length,Ue,List.length_drop]at h2;rw[←h2];by_cases hb:x.length<y.length
  ·rw[if_pos (by omega)]
   simp -implicitDefEqProofs[jJ,-natCast_add,-natCast_mul,hb]
  ·rw[if_neg (by omega)]
   simp -implicitDefEqProofs[jJ,-natCast_add,-natCast_mul,hb]
def F6:List Int→Int→Nat→Int
 |[],_,_=> -1
 |a::l,v,i=>if v=a then i else F6 l v (i+1)
theorem VN: ∀(l:List Int) (v:Int) (i:Nat),0≤F6 l v i↔v∈l
 |[],v,i=>by simp[F6]
 |a::l,v,i=>by
  unfold F6;by_cases h:v=a
  ·rw[if_pos h];simp[h]
  ·rw[if_neg h,VN l v (i+1)];simp[h]
theorem jfn{l:List Int}{v:Int}{i:Nat}(h:i<l.length):F6 (l.drop i) v i=if v=l[i] then (i:Int) else F6 (l.drop (i+1)) v (i+1):=by
 rw[AD h]
 rfl
theorem jgg(l:List Int)(v:Int)(hl:l.length≤1099511627776):CallsF Tryz.prog 242 [.c (intsD l),.c (.int .i64 v)] (.u (.c (.d (.int .i64 (F6 l v 0))))):=by
 refine Ae (T:=tb) Ad mixed Tryz.func242 rfl (by decide) (Ac rfl) rfl ?_;unfold St.init
 simp -implicitDefEqProofs[jJ,-natCast_add,-natCast_mul];refine Av (fun i:Nat=>⟨[(8,vI .i64 i),(7,vI .i64 l.length),(6,vC (.d (intsD l))),(0,vC (.d (intsD l))),(1,vI .i64 v)],[]⟩) (fun i=>i≤l.length∧F6 (l.drop i) v i=F6 l v 0) (fun i=>l.length - i) 0 (by simp) ⟨by omega,rfl⟩ ?_
 rintro i ⟨h1,h2⟩
 by_cases h:i<l.length
 ·have e:=jfn (v:=v) h;by_cases h0:v=l[i]
  ·rw[if_pos h0]at e
   simp -implicitDefEqProofs[jJ,-natCast_add,-natCast_mul,h,←h0,i64];rw[←h2,e]
  ·rw[if_neg h0]at e
   simp -implicitDefEqProofs[jJ,-natCast_add,-natCast_mul,h,h0,i64];exact⟨by omega,⟨by omega,by rw[←e,h2]⟩,by omega⟩
 ·have:i=l.length:=by omega
  subst this;rw[List.drop_length]at h2;simp -implicitDefEqProofs[jJ,-natCast_add,-natCast_mul];exact h2
theorem jfv(l:List Int)(v:Int)(hl:l.length≤1099511627776):CallsF Tryz.prog 181 [.c (intsD l),.c (.int .i64 v)] (.u (.c (.d (.bool (decide (v∈l)))))):=by
 refine Ae (T:=tb) Ad mixed Tryz.func181 rfl (by decide) (Ac rfl) rfl ?_;unfold St.init
 have e:=VN l v 0;have k:=jgg l v hl;simp -implicitDefEqProofs[jJ,-natCast_add,-natCast_mul];refine Aa k ?_;simp -implicitDefEqProofs[jJ,-natCast_add,-natCast_mul,e]
theorem jg9{α:Type}{T:At}{t:TypeId}{i:TI}(hT:T t=some i)(hz:i.zero=[.nl])(ha:i.agg=false)(e:α→D){l:List α}(hl:l≠[]):binV T .eql t (.u (.c (.d (BT e l)))) (.u (.c .nl))=some (vB false):=by
 have hn:l.length≠0:=fun h=>hl (jzv.1 h)
 show(T t).bind _=_
 rw[hT]
 simp only[Option.bind_some];have:FZ i (.u (.c (.d (BT e l)))) (.u (.c .nl))=some false:=by
  unfold FZ BT;simp only[hz,ha];rw[if_neg (by simp),if_neg hn]
 rw[this]
 rfl
theorem Pj(l:List Int)(hl:l.length≤1099511627776)(h0:l≠[]):CallsF Tryz.prog 226 [.c (intsD l)] (.u (.c (.own 1 l.length (l.map i64)))):=by
 refine Ae (T:=tb) Ad mixed Tryz.func226 rfl (by decide) (Ac rfl) rfl ?_;unfold St.init
 have:l.length≠0:=fun h=>h0 (jzv.1 h)
 have e:=jg9 (T:=tb) (t:=31) rfl rfl rfl i64 h0;simp -implicitDefEqProofs[jJ,-natCast_add,-natCast_mul,e];exact⟨by omega,by omega⟩
end Go.Va
