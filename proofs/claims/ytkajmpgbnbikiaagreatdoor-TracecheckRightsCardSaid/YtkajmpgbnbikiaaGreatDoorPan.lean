/- a part of the proof -/
import Derived.Test.YtkajmpgbnbikiaaGreatDoorPam
set_option linter.all false
set_option maxHeartbeats 4000000
set_option maxRecDepth 10000
namespace Go.Va
open Int (natCast_add natCast_mul natCast_emod natCast_ediv natCast_pow)
open Go.Proofs
theorem Sy(a b:List Nat)(ha:Ok a)(hb:Ok b):(limbs (val a*val b)).length≤a.length+b.length:=by
 apply O8
 rw[Nat.pow_add]
 exact Nat.mul_lt_mul'' (FP a ha) (FP b hb)
theorem F5(a:List Nat):CallsF Tryz.prog 206 [.c (Ag a)] (.u (.agg [.d (.bool false),.d (Ag a)])):=by
 refine Aj (T:=tb) Ai mixed Tryz.func206 rfl (by decide) (Ah rfl) rfl ?_;unfold St.init
 simp -implicitDefEqProofs[jJ,-natCast_add,-natCast_mul]
theorem F1(neg:Bool)(a b:List Nat)(hb:Ok b)(hm:b.length≤1099511627776)(h0:val b≠0):
  CallsF Tryz.prog 143 [.agg [.bool neg,Ag a,Ag b]] (.tup [.agg [.d (.bool neg),.d (Ag a)],.c (.d (Ag b))]):=by
 refine Aj (T:=tb) Ai mixed Tryz.func143 rfl (by decide) (Ah rfl) rfl ?_;unfold St.init
 simp -implicitDefEqProofs[jJ,-natCast_add,-natCast_mul]
 (first|refine Ab (Li b hb hm) ?_|refine Aa (Li b hb hm) ?_)
 have hz:EC (val b)≠0:=fun h=>h0 ((M0 _).1 h)
 simp -implicitDefEqProofs[jJ,-natCast_add,-natCast_mul,hz];refine Ar (Ac [0,1,0,4,3,31]) [.any [] [] [⟨0,[1],[],[],[]⟩,⟨0,[10],[],[],[]⟩,⟨0,[1],[2],[],[]⟩,⟨0,[12],[2],[],[]⟩,⟨2,[2,11],[],[],[2]⟩],.one] (by rfl) ?_
 simp -implicitDefEqProofs[jJ,-natCast_add,-natCast_mul]
theorem Hm(neg:Bool)(a b:List Nat)(ha:Ok a)(hl:a.length≤1099511627776)(hb:Ok b)(hm:b.length≤1099511627776)(h0:val b≠0):
  CallsF Tryz.prog 86 [.agg [.bool neg,Ag a,Ag b]] (.u (.c (.d (.int .i64 (AL neg (val a)))))):=by
 refine Aj (T:=tb) Ai mixed Tryz.func86 rfl (by decide) (Ah rfl) rfl ?_;unfold St.init
 simp -implicitDefEqProofs[jJ,-natCast_add,-natCast_mul]
 (first|refine Ab (F1 neg a b hb hm h0) ?_|refine Aa (F1 neg a b hb hm h0) ?_)
 simp -implicitDefEqProofs[jJ,-natCast_add,-natCast_mul]
 (first|refine Ab (Fw neg a ha hl) ?_|refine Aa (Fw neg a ha hl) ?_)
 simp -implicitDefEqProofs[jJ,-natCast_add,-natCast_mul]
theorem HL(a b:Int):Ax a b=0↔a=b:=by
 unfold Ax;split
 ·simp;omega
 ·split
  ·simp;omega
  ·simp;omega
theorem ME(neg:Bool)(m d:Nat):Au neg (m*d)=Au neg m*d:=by
 unfold Au;split
 ·rw[Int.neg_mul,Int.natCast_mul]
 ·rw[Int.natCast_mul]
theorem Rv(neg:Bool)(m d:Nat)(h:d≠0):AL neg (m*d)=AL neg m:=by
 unfold AL;simp[Nat.mul_eq_zero,h]
theorem Ls(na nb:Bool)(a b c d:List Nat)(ha:Ok a)(la:a.length≤1000000)(hb:Ok b)(lb:b.length≤1000000)(hc:Ok c)(lc:c.length≤1000000)(hd:Ok d)(ld:d.length≤1000000)(b0:val b≠0)(d0:val d≠0):
  CallsF Tryz.prog 130 [.agg [.bool na,Ag a,Ag b],.agg [.bool nb,Ag c,Ag d]] (.u (.c (.d (.int .i64 (Ax (Au na (val a)*val d) (Au nb (val c)*val b)))))):=by
 refine Aj (T:=tb) Ai mixed Tryz.func130 rfl (by decide) (Ah rfl) rfl ?_;unfold St.init
 simp -implicitDefEqProofs[jJ,-natCast_add,-natCast_mul];refine Ar (Ac [0,1,0,7,15,31]) [.any [] [] (Ak [[2],[11],[3]]),.one,.one,.one] (by rfl) ?_
 simp -implicitDefEqProofs[jJ,-natCast_add,-natCast_mul]
 (first|refine Ab (Hm na a b ha (by omega) hb (by omega) b0) ?_|refine Aa (Hm na a b ha (by omega) hb (by omega) b0) ?_)
 simp -implicitDefEqProofs[jJ,-natCast_add,-natCast_mul]
 (first|refine Ab (Hm nb c d hc (by omega) hd (by omega) d0) ?_|refine Aa (Hm nb c d hc (by omega) hd (by omega) d0) ?_)
 have e1:=Rv na (val a) (val d) d0;have e2:=Rv nb (val c) (val b) b0;rw[←ME,←ME];have L1:AL na (val a)<AL nb (val c)→Ax (Au na (val a*val d)) (Au nb (val c*val b))= -1:=fun h=>V7 (by rw[e1,e2];exact h)
 have L2:AL nb (val c)<AL na (val a)→Ax (Au na (val a*val d)) (Au nb (val c*val b))=1:=fun h=>Oq (by rw[e1,e2];exact h)
 have m1:=Iq na false a d ha (by omega) hd (by omega)
 have m2:=Iq nb false c b hc (by omega) hb (by omega)
 have b1:=Sy a d ha hd;have b2:=Sy c b hc hb;have k:=jam (sg na (val a*val d)) (sg nb (val c*val b)) (limbs (val a*val d)) (limbs (val c*val b)) (AC _) (by omega) (AC _) (by omega)
 rw[AB,AB,Wx,Wx]at k
 have p1:=F1 na a b hb (by omega) b0
 have p2:=F1 nb c d hd (by omega) d0
 have w1:=F5 d;have w2:=F5 b;clear ha la hb lb hc lc hd ld b0 d0 b1 b2 e1 e2;rcases Int.lt_trichotomy (AL na (val a)) (AL nb (val c))with h|h|h
 ·rw[L1 h]
  have:AL na (val a)≠AL nb (val c):=by omega
  simp -implicitDefEqProofs[jJ,-natCast_add,-natCast_mul,this,h]
 ·simp -implicitDefEqProofs[jJ,-natCast_add,-natCast_mul,h]
  (first|refine Ab p1 ?_|refine Aa p1 ?_)
  simp -implicitDefEqProofs[jJ,-natCast_add,-natCast_mul]
  (first|refine Ab p2 ?_|refine Aa p2 ?_)
  simp -implicitDefEqProofs[jJ,-natCast_add,-natCast_mul];refine Ar (Ac [0,0,2,7,0,0,47,127,255,511]) [.any [] [] (Ak [[7],[10],[32],[31,33],[9],[8],[36]]),.one,.one,.one] (by rfl) ?_
  simp -implicitDefEqProofs[jJ,-natCast_add,-natCast_mul]
  (first|refine Ab w1 ?_|refine Aa w1 ?_)
  simp -implicitDefEqProofs[jJ,-natCast_add,-natCast_mul]
  (first|refine Ab m1 ?_|refine Aa m1 ?_)
  simp -implicitDefEqProofs[jJ,-natCast_add,-natCast_mul,BR]
  (first|refine Ab w2 ?_|refine Aa w2 ?_)
  simp -implicitDefEqProofs[jJ,-natCast_add,-natCast_mul]
  (first|refine Ab m2 ?_|refine Aa m2 ?_)
  simp -implicitDefEqProofs[jJ,-natCast_add,-natCast_mul,BR]
  (first|refine Ab k ?_|refine Aa k ?_)
  simp -implicitDefEqProofs[jJ,-natCast_add,-natCast_mul]
 ·rw[L2 h]
  have h2:AL na (val a)≠AL nb (val c):=by omega
  have h3: ¬AL na (val a)<AL nb (val c):=by omega
  simp -implicitDefEqProofs[jJ,-natCast_add,-natCast_mul,h2,h3]
theorem MY(na nb:Bool)(a b c d:List Nat)(ha:Ok a)(la:a.length≤1000000)(hb:Ok b)(lb:b.length≤1000000)(hc:Ok c)(lc:c.length≤1000000)(hd:Ok d)(ld:d.length≤1000000)(b0:val b≠0)(d0:val d≠0):
  CallsF Tryz.prog 124 [.agg [.bool na,Ag a,Ag b],.agg [.bool nb,Ag c,Ag d]] (.u (.c (.d (.bool (decide (Au na (val a)*val d=Au nb (val c)*val b)))))):=by
 refine Aj (T:=tb) Ai mixed Tryz.func124 rfl (by decide) (Ah rfl) rfl ?_;unfold St.init
 have k:=Ls na nb a b c d ha la hb lb hc lc hd ld b0 d0;have e:=HL (Au na (val a)*val d) (Au nb (val c)*val b);clear ha la hb lb hc lc hd ld b0 d0;simp -implicitDefEqProofs[jJ,-natCast_add,-natCast_mul]
 (first|refine Ab k ?_|refine Aa k ?_)
 simp -implicitDefEqProofs[jJ,-natCast_add,-natCast_mul,e]
theorem JW:limbs 1=[1]:=rfl
theorem Lq(n:Nat)(hn:n<9223372036854775808):CallsF Tryz.prog 125 [.c (.int .i64 n)] (.u (.agg [.d (.bool false),.d (Ag (limbs n)),.d (Ag (limbs 1))])):=by
 refine Aj (T:=tb) Ai mixed Tryz.func125 rfl (by decide) (Ah rfl) rfl ?_;unfold St.init
 simp -implicitDefEqProofs[jJ,-natCast_add,-natCast_mul]
 (first|refine Ab (N7 n hn) ?_|refine Aa (N7 n hn) ?_)
 simp -implicitDefEqProofs[jJ,-natCast_add,-natCast_mul]
 (first|refine Ab HV ?_|refine Aa HV ?_)
 simp -implicitDefEqProofs[jJ,-natCast_add,-natCast_mul,BR,sg,JW]
def BW(neg:Bool)(a b:List Nat):Bool:=lastOk a&& !(neg&&decide (a=[]))&& !decide (b=[])&&lastOk b&&decide (Nat.gcd (val a) (val b)=1)
theorem FG{a:List Nat}(ha:Ok a)(hl:a.length≤4):val a<18446744073709551616:=by
 have:=FP a ha
 rw[←If]
 exact Nat.lt_of_lt_of_le this (Nat.pow_le_pow_right (by omega) hl)
theorem KW{n:Nat}:limbs n=[1]↔n=1:=by
 constructor
 ·intro h;have:=AB n;rw[h]at this
  simpa [val]using this.symm
 ·rintro rfl;rfl
theorem jbc(neg:Bool)(a b:List Nat)(ha:Ok a)(hl:a.length≤4)(hb:Ok b)(hm:b.length≤4):
  CallsF Tryz.prog 99 [.agg [.bool neg,Ag a,Ag b]] (.u (.c (.d (.bool (BW neg a b))))):=by
 refine Aj (T:=tb) Ai mixed Tryz.func99 rfl (by decide) (Ah rfl) rfl ?_;unfold St.init
 have k:=YW neg a (by omega)
 have g:=LU a b ha (by omega) hb (by omega) (FG ha hl) (FG hb hm)
 unfold BW;cases hr:(lastOk a&& !(neg&&decide (a=[])))
 ·rw[hr]at k
  simp -implicitDefEqProofs[jJ,-natCast_add,-natCast_mul]
  (first|refine Ab k ?_|refine Aa k ?_)
  simp -implicitDefEqProofs[jJ,-natCast_add,-natCast_mul]
 ·rw[hr]at k
  rcases Nat.eq_zero_or_pos b.length with h0|h0
  ·have:b=[]:=jzv.1 h0
   subst this;simp -implicitDefEqProofs[jJ,-natCast_add,-natCast_mul]
   (first|refine Ab k ?_|refine Aa k ?_)
   simp -implicitDefEqProofs[jJ,-natCast_add,-natCast_mul]
  ·obtain⟨n,hn⟩: ∃n,b.length=n+1:=⟨b.length - 1,by omega⟩
   have hne:b≠[]:=fun h=>by rw[h]at hn;simp at hn
   obtain⟨x,hx⟩:=Fx (a:=b) (n:=n) (by omega)
   have hg:b.getLast? =some x:=by rw[List.getLast?_eq_getElem?,hn];simpa using hx
   have e:b[n]'(by omega)=x:=by
    have:=An (l:=b) (i:=n) (by omega)
    rw[hx]at this
    exact(AE this).symm
   have o1:=IA b;have o2:=IA (limbs (Nat.gcd (val a) (val b)));have v1:b=[1]→val b=1:=fun h=>by rw[h];rfl
   have hlast:lastOk b= !decide (x=0):=by unfold lastOk;rw[hg];simp
   rw[hlast]
   simp -implicitDefEqProofs[jJ,-natCast_add,-natCast_mul,hn]
   (first|refine Ab k ?_|refine Aa k ?_)
   simp -implicitDefEqProofs[jJ,-natCast_add,-natCast_mul,hn,hx,u16,e,hne];refine⟨by omega,fun h h'=>absurd h h',fun hx0=> ?_⟩
   (first|refine Ab o1 ?_|refine Aa o1 ?_)
   by_cases hb1:b=[1]
   ·have e1:Nat.gcd (val a) (val b)=1:=by rw[v1 hb1,Nat.gcd_one_right]
    simp -implicitDefEqProofs[jJ,-natCast_add,-natCast_mul,hb1,hx0];rw[←hb1,e1]
   ·simp -implicitDefEqProofs[jJ,-natCast_add,-natCast_mul,hb1,hx0]
    (first|refine Ab g ?_|refine Aa g ?_)
    simp -implicitDefEqProofs[jJ,-natCast_add,-natCast_mul]
    (first|refine Ab o2 ?_|refine Aa o2 ?_)
    simp -implicitDefEqProofs[jJ,-natCast_add,-natCast_mul,KW]
theorem Ss(neg:Bool)(m d:Nat)(hm:m<18446744073709551616)(hd:d<18446744073709551616)(h0:d≠0)(hg:Nat.gcd m d=1):
  CallsF Tryz.prog 268 [.agg [.bool neg,Ag (limbs m)],.c (Ag (limbs d))] (.u (.agg [.d (.bool (sg neg m)),.d (Ag (limbs m)),.d (Ag (limbs d))])):=by
 refine Aj (T:=tb) Ai mixed Tryz.func268 rfl (by decide) (Ah rfl) rfl ?_;unfold St.init
 have lm:=BY hm;have ld:=BY hd;have n1:=F6 (limbs d) (AC _) (by omega)
 have n2:=jn3 neg (limbs m) (AC _) (by omega)
 have g:=LU (limbs m) (limbs d) (AC _) (by omega) (AC _) (by omega) (by rw[AB];exact hm) (by rw[AB];exact hd)
 have o1:=IA (limbs d);have o2:=IA (limbs 1);rw[AB,AB,hg]at g;rw[AB]at n1 n2;simp only[KW]at o1 o2;have hne:limbs d≠[]:=fun h=>h0 (limbs_nil.1 h)
 simp -implicitDefEqProofs[jJ,-natCast_add,-natCast_mul]
 (first|refine Ab n1 ?_|refine Aa n1 ?_)
 simp -implicitDefEqProofs[jJ,-natCast_add,-natCast_mul]
 (first|refine Ab n2 ?_|refine Aa n2 ?_)
 simp -implicitDefEqProofs[jJ,-natCast_add,-natCast_mul,BR];by_cases hz:m=0
 ·subst hz;have:d=1:=by simpa using hg
  subst this;simp -implicitDefEqProofs[jJ,-natCast_add,-natCast_mul,B3,JW]
  (first|refine Ab HV ?_|refine Aa HV ?_)
  simp -implicitDefEqProofs[jJ,-natCast_add,-natCast_mul,sg];rfl
 ·have hne2:limbs m≠[]:=fun h=>hz (limbs_nil.1 h)
  simp -implicitDefEqProofs[jJ,-natCast_add,-natCast_mul,hne,hne2]
  (first|refine Ab o1 ?_|refine Aa o1 ?_)
  by_cases h1:d=1
  ·subst h1;simp -implicitDefEqProofs[jJ,-natCast_add,-natCast_mul]
  ·simp -implicitDefEqProofs[jJ,-natCast_add,-natCast_mul,h1]
   (first|refine Ab g ?_|refine Aa g ?_)
   simp -implicitDefEqProofs[jJ,-natCast_add,-natCast_mul]
   (first|refine Ab o2 ?_|refine Aa o2 ?_)
   simp -implicitDefEqProofs[jJ,-natCast_add,-natCast_mul]
theorem Jp{neg:Bool}{m:Nat}:AL neg m=0↔m=0:=by
 unfold AL;split
 ·simp[*]
 ·cases neg<;>simp[*]
theorem jjB(na nb:Bool)(m d:Nat)(hm:m<18446744073709551616)(hd:d<18446744073709551616)(hg:Nat.gcd m d=1):
  CallsF Tryz.prog 264 [.agg [.bool na,Ag (limbs m)],.agg [.bool nb,Ag (limbs d)]]
   (if d=0 then .tup [.agg [.d (.bool false),.d (Ag []),.d (Ag [])],.c (.d (.int .i64 3))]
   else .tup [.agg [.d (.bool (sg (!decide (na=nb)) m)),.d (Ag (limbs m)),.d (Ag (limbs d))],.c (.d (.int .i64 0))]):=by
 have ld:=BY hd;have s1:=Fw nb (limbs d) (AC _) (by omega)
 rw[AB]at s1
 by_cases h0:d=0
 ·rw[if_pos h0]
  refine Aj (T:=tb) Ai mixed Tryz.func264 rfl (by decide) (Ah rfl) rfl ?_;unfold St.init
  simp -implicitDefEqProofs[jJ,-natCast_add,-natCast_mul]
  (first|refine Ab s1 ?_|refine Aa s1 ?_)
  simp -implicitDefEqProofs[jJ,-natCast_add,-natCast_mul,Jp,h0];rfl
 ·rw[if_neg h0]
  refine Aj (T:=tb) Ai mixed Tryz.func264 rfl (by decide) (Ah rfl) rfl ?_;unfold St.init
  simp -implicitDefEqProofs[jJ,-natCast_add,-natCast_mul]
  (first|refine Ab s1 ?_|refine Aa s1 ?_)
  simp -implicitDefEqProofs[jJ,-natCast_add,-natCast_mul,Jp,h0]
  (first|refine Ab (Ss (!decide (na=nb)) m d hm hd h0 hg) ?_|refine Aa (Ss (!decide (na=nb)) m d hm hd h0 hg) ?_)
  simp -implicitDefEqProofs[jJ,-natCast_add,-natCast_mul]
theorem jjy(neg:Bool)(m d:Nat)(hm:m<18446744073709551616)(hd:d<18446744073709551616)(d0:d≠0)(hg:Nat.gcd m d=1):
  CallsF Tryz.prog 288 [.agg [.bool false,Ag (limbs 1),Ag (limbs 1)],.agg [.bool neg,Ag (limbs m),Ag (limbs d)]]
   (if m=0 then .tup [.agg [.d (.bool false),.d (Ag []),.d (Ag [])],.c (.d (.int .i64 3))]
   else .tup [.agg [.d (.bool neg),.d (Ag (limbs d)),.d (Ag (limbs m))],.c (.d (.int .i64 0))]):=by
 have lm:=BY hm;have ld:=BY hd;have l1:(limbs 1).length=1:=rfl;have p1:=F1 false (limbs 1) (limbs 1) (AC _) (by omega) (by rw[AB];omega)
 have p2:=F1 neg (limbs m) (limbs d) (AC _) (by omega) (by rw[AB];exact d0)
 have m1:=Iq false false (limbs 1) (limbs d) (AC _) (by omega) (AC _) (by omega)
 have m2:=Iq neg false (limbs m) (limbs 1) (AC _) (by omega) (AC _) (by omega)
 rw[AB,AB,Nat.one_mul]at m1
 rw[AB,AB,Nat.mul_one]at m2
 have k:=jjB (sg false d) (sg neg m) d m hd hm (by rw[Nat.gcd_comm];exact hg)
 have e1:sg (!decide (sg false d=sg neg m)) d=(neg&&decide (0<m)):=by
  have:0<d:=by omega
  cases neg<;>by_cases hz:m=0<;>simp[sg,this,hz]<;>omega
 rw[e1]at k
 refine Aj (T:=tb) Ai mixed Tryz.func288 rfl (by decide) (Ah rfl) rfl ?_;unfold St.init
 simp -implicitDefEqProofs[jJ,-natCast_add,-natCast_mul]
 (first|refine Ab p1 ?_|refine Aa p1 ?_)
 simp -implicitDefEqProofs[jJ,-natCast_add,-natCast_mul]
 (first|refine Ab p2 ?_|refine Aa p2 ?_)
 simp -implicitDefEqProofs[jJ,-natCast_add,-natCast_mul];refine Ar (Ac [0,0,2,7,0,0,47,127,255,511,511,2047,4095]) [.any [] [] (Ak [[6],[9],[21],[20,22],[8],[7],[25]]),.one,.one,.any [] [] (Ak [[28],[28]]),.one,.one] (by rfl) ?_
 simp -implicitDefEqProofs[jJ,-natCast_add,-natCast_mul]
 (first|refine Ab (F5 (limbs d)) ?_|refine Aa (F5 (limbs d)) ?_)
 simp -implicitDefEqProofs[jJ,-natCast_add,-natCast_mul]
 (first|refine Ab m1 ?_|refine Aa m1 ?_)
 simp -implicitDefEqProofs[jJ,-natCast_add,-natCast_mul,BR]
 (first|refine Ab (F5 (limbs 1)) ?_|refine Aa (F5 (limbs 1)) ?_)
 simp -implicitDefEqProofs[jJ,-natCast_add,-natCast_mul]
 (first|refine Ab m2 ?_|refine Aa m2 ?_)
 simp -implicitDefEqProofs[jJ,-natCast_add,-natCast_mul,BR]
 (first|refine Ab k ?_|refine Aa k ?_)
 by_cases h0:m=0
 ·simp -implicitDefEqProofs[jJ,-natCast_add,-natCast_mul,h0]
 ·have:0<m:=by omega
  simp -implicitDefEqProofs[jJ,-natCast_add,-natCast_mul,h0,this]
theorem jk8{m n:Nat}(hm:m<18446744073709551616)(hn:n<18446744073709551616):Nat.gcd m n<18446744073709551616:=by
 rcases Nat.eq_zero_or_pos n with h|h
 ·subst h;rw[Nat.gcd_zero_right];exact hm
 ·exact Nat.lt_of_le_of_lt (Nat.gcd_le_right m h) hn
theorem Yp(neg:Bool)(a b:List Nat)(ha:Ok a)(hl:a.length≤4)(hb:Ok b)(hm:b.length≤4):
  CallsF Tryz.prog 49 [.agg [.bool neg,Ag a,Ag b]] (.u (.c (.d (.bool (BW neg a b))))):=by
 refine Aj (T:=tb) Ai mixed Tryz.func49 rfl (by decide) (Ah rfl) rfl ?_;unfold St.init
 have k:=jm4 neg a (by omega)
 have v:=QF b (by omega)
 have g:=jcx a b ha (by omega) hb (by omega) (FG ha hl) (FG hb hm)
 have s:=jaZ (limbs (Nat.gcd (val a) (val b))) (limbs 1) (by have:=BY (jk8 (FG ha hl) (FG hb hm));omega)
 unfold BW;cases hr:(lastOk a&& !(neg&&decide (a=[])))
 ·rw[hr]at k
  simp -implicitDefEqProofs[jJ,-natCast_add,-natCast_mul]
  (first|refine Ab k ?_|refine Aa k ?_)
  simp -implicitDefEqProofs[jJ,-natCast_add,-natCast_mul]
 ·rw[hr]at k
  simp -implicitDefEqProofs[jJ,-natCast_add,-natCast_mul]
  (first|refine Ab k ?_|refine Aa k ?_)
  simp -implicitDefEqProofs[jJ,-natCast_add,-natCast_mul]
  (first|refine Ab v ?_|refine Aa v ?_)
  cases hv:lastOk b
  ·simp -implicitDefEqProofs[jJ,-natCast_add,-natCast_mul]
  ·simp -implicitDefEqProofs[jJ,-natCast_add,-natCast_mul]
   (first|refine Ab g ?_|refine Aa g ?_)
   simp -implicitDefEqProofs[jJ,-natCast_add,-natCast_mul]
   (first|refine Ab (GE 1 (by omega)) ?_|refine Aa (GE 1 (by omega)) ?_)
   simp -implicitDefEqProofs[jJ,-natCast_add,-natCast_mul]
   (first|refine Ab s ?_|refine Aa s ?_)
   simp -implicitDefEqProofs[jJ,-natCast_add,-natCast_mul];simp only[JW,KW];refine⟨fun h1=> ?_,fun h1 _ h2=>h1 h2⟩
   cases b<;>simp[h1]
theorem HU(a:Int):CallsF Tryz.prog 203 [.c (.int .i64 a)] (.u (.c (.d (.bool false)))):=by
 refine Aj (T:=tb) Ai mixed Tryz.func203 rfl (by decide) (Ah rfl) rfl ?_;unfold St.init
 simp -implicitDefEqProofs[jJ,-natCast_add,-natCast_mul]
theorem Ey(a b:Int):CallsF Tryz.prog 128 [.c (.int .i64 a),.c (.int .i64 b)] (.u (.c (.d (.int .i64 (Ax a b))))):=by
 refine Aj (T:=tb) Ai mixed Tryz.func128 rfl (by decide) (Ah rfl) rfl ?_;unfold St.init
 simp -implicitDefEqProofs[jJ,-natCast_add,-natCast_mul]
 (first|refine Ab (HU a) ?_|refine Aa (HU a) ?_)
 simp -implicitDefEqProofs[jJ,-natCast_add,-natCast_mul]
 (first|refine Ab (HU b) ?_|refine Aa (HU b) ?_)
 simp -implicitDefEqProofs[jJ,-natCast_add,-natCast_mul];unfold Ax;refine⟨fun h=>by rw[if_pos h],fun h=>⟨fun h2=>by rw[if_neg (by omega),if_pos h2],fun h2=>by rw[if_neg (by omega),if_neg (by omega)]⟩⟩
def B6:List Int→Int
 |[]=>0
 |a::l=>if a=0 then B6 l else a
theorem jc8{l:List Int}{i:Nat}(h:i<l.length):B6 (l.drop i)=if l[i]=0 then B6 (l.drop (i+1)) else l[i]:=by
 rw[Be h]
 rfl
theorem Iz(l:List Int)(hl:l.length≤1099511627776):CallsF Tryz.prog 127 [.c (intsD l)] (.u (.c (.d (.int .i64 (B6 l))))):=by
 refine Aj (T:=tb) Ai mixed Tryz.func127 rfl (by decide) (Ah rfl) rfl ?_;unfold St.init
 simp -implicitDefEqProofs[jJ,-natCast_add,-natCast_mul];refine AA (fun i:Nat=>⟨[(8,vI .i64 i),(7,vI .i64 l.length),(6,vC (.d (intsD l))),(3,vI .i64 0)],[]⟩) (fun i=>i≤l.length∧B6 (l.drop i)=B6 l) (fun i=>l.length - i) 0 (by simp) ⟨by omega,rfl⟩ ?_
 rintro i ⟨h1,h2⟩
 by_cases h:i<l.length
 ·have e:=jc8 h;by_cases h0:l[i]=0
  ·rw[h0]at e
   simp -implicitDefEqProofs[jJ,-natCast_add,-natCast_mul,h,h0,i64];rw[if_pos rfl]at e;exact⟨by omega,⟨by omega,by rw[←e,h2]⟩,by omega⟩
  ·simp -implicitDefEqProofs[jJ,-natCast_add,-natCast_mul,h,h0,i64];rw[←h2,e,if_neg h0]
 ·have:i=l.length:=by omega
  subst this;simp -implicitDefEqProofs[jJ,-natCast_add,-natCast_mul];rw[List.drop_length]at h2;exact h2
def AM:List Int→List Int→Int
 |[],[]=>0
 |[],_::_=> -1
 |_::_,[]=>1
 |a::x,b::y=>if Ax a b=0 then AM x y else Ax a b
theorem jiH(y:List Int):AM [] y=if 0<y.length then -1 else 0:=by cases y<;>simp[AM]
theorem jlX{x y:List Int}{i:Nat}(h:i<x.length)(hy:i<y.length):AM (x.drop i) (y.drop i)=if Ax x[i] y[i]=0 then AM (x.drop (i+1)) (y.drop (i+1)) else Ax x[i] y[i]:=by
 rw[Be h,Be hy]
 rfl
theorem jba{x y:List Int}{i:Nat}(h:i<x.length)(hy:i=y.length):AM (x.drop i) (y.drop i)=1:=by
 subst hy;rw[Be h,List.drop_length];rfl
theorem Rx(x y:List Int)(hx:x.length≤1099511627776)(hy:y.length≤1099511627776):CallsF Tryz.prog 129 [.c (intsD x),.c (intsD y)] (.u (.c (.d (.int .i64 (AM x y))))):=by
 refine Aj (T:=tb) Ai mixed Tryz.func129 rfl (by decide) (Ah rfl) rfl ?_;unfold St.init
 simp -implicitDefEqProofs[jJ,-natCast_add,-natCast_mul];refine AA (fun i:Nat=>⟨[(11,vI .i64 i),(10,vI .i64 x.length),(9,vC (.d (intsD x))),(0,vC (.d (intsD x))),(1,vC (.d (intsD y)))],[]⟩) (fun i=>i≤x.length∧i≤y.length∧AM (x.drop i) (y.drop i)=AM x y) (fun i=>x.length - i) 0 (by simp) ⟨by omega,by omega,rfl⟩ ?_
 rintro i ⟨h1,h3,h2⟩
 by_cases h:i<x.length
 ·by_cases hb:i<y.length
  ·have e:=jlX h hb;have hn: ¬y.length≤i:=by omega
   simp -implicitDefEqProofs[jJ,-natCast_add,-natCast_mul,h,hb,hn,i64]
   (first|refine Ab (Ey x[i] y[i]) ?_|refine Aa (Ey x[i] y[i]) ?_)
   by_cases h0:Ax x[i] y[i]=0
   ·rw[if_pos h0]at e
    simp -implicitDefEqProofs[jJ,-natCast_add,-natCast_mul,h0];exact⟨by omega,⟨by omega,by omega,by rw[←e,h2]⟩,by omega⟩
   ·rw[if_neg h0]at e
    simp -implicitDefEqProofs[jJ,-natCast_add,-natCast_mul,h0];rw[←h2,e]
  ·have e:i=y.length:=by omega
   have e2:=jba h e;rw[h2]at e2;have hn:y.length≤i:=by omega
   simp -implicitDefEqProofs[jJ,-natCast_add,-natCast_mul,h,hn,i64];rw[e2]
 ·have:i=x.length:=by omega
  subst this;rw[List.drop_length,jiH,List.length_drop]at h2;rw[←h2];by_cases hb:x.length<y.length
  ·rw[if_pos (by omega)]
   simp -implicitDefEqProofs[jJ,-natCast_add,-natCast_mul,hb]
  ·rw[if_neg (by omega)]
   simp -implicitDefEqProofs[jJ,-natCast_add,-natCast_mul,hb]
def Ed:List Int→Int→Nat→Int
 |[],_,_=> -1
 |a::l,v,i=>if v=a then i else Ed l v (i+1)
theorem Pr: ∀(l:List Int) (v:Int) (i:Nat),0≤Ed l v i↔v∈l
 |[],v,i=>by simp[Ed]
 |a::l,v,i=>by
  unfold Ed;by_cases h:v=a
  ·rw[if_pos h];simp[h]
  ·rw[if_neg h,Pr l v (i+1)];simp[h]
theorem jon{l:List Int}{v:Int}{i:Nat}(h:i<l.length):Ed (l.drop i) v i=if v=l[i] then (i:Int) else Ed (l.drop (i+1)) v (i+1):=by
 rw[Be h]
 rfl
theorem jd2(l:List Int)(v:Int)(hl:l.length≤1099511627776):CallsF Tryz.prog 200 [.c (intsD l),.c (.int .i64 v)] (.u (.c (.d (.int .i64 (Ed l v 0))))):=by
 refine Aj (T:=tb) Ai mixed Tryz.func200 rfl (by decide) (Ah rfl) rfl ?_;unfold St.init
 simp -implicitDefEqProofs[jJ,-natCast_add,-natCast_mul];refine AA (fun i:Nat=>⟨[(8,vI .i64 i),(7,vI .i64 l.length),(6,vC (.d (intsD l))),(0,vC (.d (intsD l))),(1,vI .i64 v)],[]⟩) (fun i=>i≤l.length∧Ed (l.drop i) v i=Ed l v 0) (fun i=>l.length - i) 0 (by simp) ⟨by omega,rfl⟩ ?_
 rintro i ⟨h1,h2⟩
 by_cases h:i<l.length
 ·have e:=jon (v:=v) h;by_cases h0:v=l[i]
  ·rw[if_pos h0]at e
   simp -implicitDefEqProofs[jJ,-natCast_add,-natCast_mul,h,←h0,i64];rw[←h2,e]
  ·rw[if_neg h0]at e
   simp -implicitDefEqProofs[jJ,-natCast_add,-natCast_mul,h,h0,i64];exact⟨by omega,⟨by omega,by rw[←e,h2]⟩,by omega⟩
 ·have:i=l.length:=by omega
  subst this;rw[List.drop_length]at h2;simp -implicitDefEqProofs[jJ,-natCast_add,-natCast_mul];exact h2
theorem jkp(l:List Int)(v:Int)(hl:l.length≤1099511627776):CallsF Tryz.prog 123 [.c (intsD l),.c (.int .i64 v)] (.u (.c (.d (.bool (decide (v∈l)))))):=by
 refine Aj (T:=tb) Ai mixed Tryz.func123 rfl (by decide) (Ah rfl) rfl ?_;unfold St.init
 have e:=Pr l v 0;have k:=jd2 l v hl;simp -implicitDefEqProofs[jJ,-natCast_add,-natCast_mul]
 (first|refine Ab k ?_|refine Aa k ?_)
 simp -implicitDefEqProofs[jJ,-natCast_add,-natCast_mul,e]
theorem jdM{α:Type}{T:Ao}{t:TypeId}{i:TI}(hT:T t=some i)(hz:i.zero=[.nl])(ha:i.agg=false)(e:α→D){l:List α}(hl:l≠[]):binV T .eql t (.u (.c (.d (BG e l)))) (.u (.c .nl))=some (vB false):=by
 have hn:l.length≠0:=fun h=>hl (jzv.1 h)
 show(T t).bind _=_
 rw[hT]
 simp only[Option.bind_some];have:D9 i (.u (.c (.d (BG e l)))) (.u (.c .nl))=some false:=by
  unfold D9 BG;simp only[hz,ha];rw[if_neg (by simp),if_neg hn]
 rw[this]
 rfl
theorem K0(l:List Int)(hl:l.length≤1099511627776)(h0:l≠[]):CallsF Tryz.prog 289 [.c (intsD l)] (.u (.c (.own 1 l.length (l.map i64)))):=by
 refine Aj (T:=tb) Ai mixed Tryz.func289 rfl (by decide) (Ah rfl) rfl ?_;unfold St.init
 have:l.length≠0:=fun h=>h0 (jzv.1 h)
 have e:=jdM (T:=tb) (t:=43) rfl rfl rfl i64 h0;simp -implicitDefEqProofs[jJ,-natCast_add,-natCast_mul,e];exact⟨by omega,by omega⟩
end Go.Va
