/- a part of the proof -/
import Derived.Test.YtkajmpgbnbikiaaGreatDoorMan
set_option linter.all false
set_option maxHeartbeats 4000000
set_option maxRecDepth 10000
namespace Go.Va
open Int (natCast_add natCast_mul natCast_emod natCast_ediv natCast_pow)
open Go.Proofs
theorem CO(a b:List Nat)(ha:Ok a)(hb:Ok b):(limbs (val a*val b)).length≤a.length+b.length:=by
 apply EX
 rw[Nat.pow_add]
 exact Nat.mul_lt_mul'' (Bn a ha) (Bn b hb)
theorem FW(a:List Nat):CallsF Tryz.prog 206 [.c (Ac a)] (.u (.agg [.d (.bool false),.d (Ac a)])):=by
 refine Ak (T:=tb) Ah mixed Tryz.func206 rfl (by decide) (Af rfl) rfl ?_;unfold St.init
 simp -implicitDefEqProofs[jJ,-natCast_add,-natCast_mul]
theorem Ej(neg:Bool)(a b:List Nat)(hb:Ok b)(hm:b.length≤1099511627776)(h0:val b≠0):
  CallsF Tryz.prog 143 [.agg [.bool neg,Ac a,Ac b]] (.tup [.agg [.d (.bool neg),.d (Ac a)],.c (.d (Ac b))]):=by
 refine Ak (T:=tb) Ah mixed Tryz.func143 rfl (by decide) (Af rfl) rfl ?_;unfold St.init
 simp -implicitDefEqProofs[jJ,-natCast_add,-natCast_mul]
 (first|refine Ab (MS b hb hm) ?_|refine Aa (MS b hb hm) ?_)
 have hz:Fo (val b)≠0:=fun h=>h0 ((Qv _).1 h)
 simp -implicitDefEqProofs[jJ,-natCast_add,-natCast_mul,hz];refine At (Ad [0,1,0,4,3,31]) [.any [] [] [⟨0,[1],[],[],[]⟩,⟨0,[10],[],[],[]⟩,⟨0,[1],[2],[],[]⟩,⟨0,[12],[2],[],[]⟩,⟨2,[2,11],[],[],[2]⟩],.one] (by rfl) ?_
 simp -implicitDefEqProofs[jJ,-natCast_add,-natCast_mul]
theorem G4(neg:Bool)(a b:List Nat)(ha:Ok a)(hl:a.length≤1099511627776)(hb:Ok b)(hm:b.length≤1099511627776)(h0:val b≠0):
  CallsF Tryz.prog 86 [.agg [.bool neg,Ac a,Ac b]] (.u (.c (.d (.int .i64 (AQ neg (val a)))))):=by
 refine Ak (T:=tb) Ah mixed Tryz.func86 rfl (by decide) (Af rfl) rfl ?_;unfold St.init
 simp -implicitDefEqProofs[jJ,-natCast_add,-natCast_mul]
 (first|refine Ab (Ej neg a b hb hm h0) ?_|refine Aa (Ej neg a b hb hm h0) ?_)
 simp -implicitDefEqProofs[jJ,-natCast_add,-natCast_mul]
 (first|refine Ab (F1 neg a ha hl) ?_|refine Aa (F1 neg a ha hl) ?_)
 simp -implicitDefEqProofs[jJ,-natCast_add,-natCast_mul]
theorem HK(a b:Int):cmpZ a b=0↔a=b:=by
 unfold cmpZ;split
 ·simp;omega
 ·split
  ·simp;omega
  ·simp;omega
theorem RI(neg:Bool)(m d:Nat):toZ neg (m*d)=toZ neg m*d:=by
 unfold toZ;split
 ·rw[Int.neg_mul,Int.natCast_mul]
 ·rw[Int.natCast_mul]
theorem UE(neg:Bool)(m d:Nat)(h:d≠0):AQ neg (m*d)=AQ neg m:=by
 unfold AQ;simp[Nat.mul_eq_zero,h]
theorem Mv(na nb:Bool)(a b c d:List Nat)(ha:Ok a)(la:a.length≤1000000)(hb:Ok b)(lb:b.length≤1000000)(hc:Ok c)(lc:c.length≤1000000)(hd:Ok d)(ld:d.length≤1000000)(b0:val b≠0)(d0:val d≠0):
  CallsF Tryz.prog 130 [.agg [.bool na,Ac a,Ac b],.agg [.bool nb,Ac c,Ac d]] (.u (.c (.d (.int .i64 (cmpZ (toZ na (val a)*val d) (toZ nb (val c)*val b)))))):=by
 refine Ak (T:=tb) Ah mixed Tryz.func130 rfl (by decide) (Af rfl) rfl ?_;unfold St.init
 simp -implicitDefEqProofs[jJ,-natCast_add,-natCast_mul];refine At (Ad [0,1,0,7,15,31]) [.any [] [] (Ap [[2],[11],[3]]),.one,.one,.one] (by rfl) ?_
 simp -implicitDefEqProofs[jJ,-natCast_add,-natCast_mul]
 (first|refine Ab (G4 na a b ha (by omega) hb (by omega) b0) ?_|refine Aa (G4 na a b ha (by omega) hb (by omega) b0) ?_)
 simp -implicitDefEqProofs[jJ,-natCast_add,-natCast_mul]
 (first|refine Ab (G4 nb c d hc (by omega) hd (by omega) d0) ?_|refine Aa (G4 nb c d hc (by omega) hd (by omega) d0) ?_)
 have e1:=UE na (val a) (val d) d0;have e2:=UE nb (val c) (val b) b0;rw[←RI,←RI];have L1:AQ na (val a)<AQ nb (val c)→cmpZ (toZ na (val a*val d)) (toZ nb (val c*val b))= -1:=fun h=>Ov (by rw[e1,e2];exact h)
 have L2:AQ nb (val c)<AQ na (val a)→cmpZ (toZ na (val a*val d)) (toZ nb (val c*val b))=1:=fun h=>PH (by rw[e1,e2];exact h)
 have m1:=Gq na false a d ha (by omega) hd (by omega)
 have m2:=Gq nb false c b hc (by omega) hb (by omega)
 have b1:=CO a d ha hd;have b2:=CO c b hc hb;have k:=ZL (sg na (val a*val d)) (sg nb (val c*val b)) (limbs (val a*val d)) (limbs (val c*val b)) (An _) (by omega) (An _) (by omega)
 rw[Ao,Ao,JA,JA]at k
 have p1:=Ej na a b hb (by omega) b0
 have p2:=Ej nb c d hd (by omega) d0
 have w1:=FW d;have w2:=FW b;clear ha la hb lb hc lc hd ld b0 d0 b1 b2 e1 e2;rcases Int.lt_trichotomy (AQ na (val a)) (AQ nb (val c))with h|h|h
 ·rw[L1 h]
  have:AQ na (val a)≠AQ nb (val c):=by omega
  simp -implicitDefEqProofs[jJ,-natCast_add,-natCast_mul,this,h]
 ·simp -implicitDefEqProofs[jJ,-natCast_add,-natCast_mul,h]
  (first|refine Ab p1 ?_|refine Aa p1 ?_)
  simp -implicitDefEqProofs[jJ,-natCast_add,-natCast_mul]
  (first|refine Ab p2 ?_|refine Aa p2 ?_)
  simp -implicitDefEqProofs[jJ,-natCast_add,-natCast_mul];refine At (Ad [0,0,2,7,0,0,47,127,255,511]) [.any [] [] (Ap [[7],[10],[32],[31,33],[9],[8],[36]]),.one,.one,.one] (by rfl) ?_
  simp -implicitDefEqProofs[jJ,-natCast_add,-natCast_mul]
  (first|refine Ab w1 ?_|refine Aa w1 ?_)
  simp -implicitDefEqProofs[jJ,-natCast_add,-natCast_mul]
  (first|refine Ab m1 ?_|refine Aa m1 ?_)
  simp -implicitDefEqProofs[jJ,-natCast_add,-natCast_mul,AO]
  (first|refine Ab w2 ?_|refine Aa w2 ?_)
  simp -implicitDefEqProofs[jJ,-natCast_add,-natCast_mul]
  (first|refine Ab m2 ?_|refine Aa m2 ?_)
  simp -implicitDefEqProofs[jJ,-natCast_add,-natCast_mul,AO]
  (first|refine Ab k ?_|refine Aa k ?_)
  simp -implicitDefEqProofs[jJ,-natCast_add,-natCast_mul]
 ·rw[L2 h]
  have h2:AQ na (val a)≠AQ nb (val c):=by omega
  have h3: ¬AQ na (val a)<AQ nb (val c):=by omega
  simp -implicitDefEqProofs[jJ,-natCast_add,-natCast_mul,h2,h3]
theorem MY(na nb:Bool)(a b c d:List Nat)(ha:Ok a)(la:a.length≤1000000)(hb:Ok b)(lb:b.length≤1000000)(hc:Ok c)(lc:c.length≤1000000)(hd:Ok d)(ld:d.length≤1000000)(b0:val b≠0)(d0:val d≠0):
  CallsF Tryz.prog 124 [.agg [.bool na,Ac a,Ac b],.agg [.bool nb,Ac c,Ac d]] (.u (.c (.d (.bool (decide (toZ na (val a)*val d=toZ nb (val c)*val b)))))):=by
 refine Ak (T:=tb) Ah mixed Tryz.func124 rfl (by decide) (Af rfl) rfl ?_;unfold St.init
 have k:=Mv na nb a b c d ha la hb lb hc lc hd ld b0 d0;have e:=HK (toZ na (val a)*val d) (toZ nb (val c)*val b);clear ha la hb lb hc lc hd ld b0 d0;simp -implicitDefEqProofs[jJ,-natCast_add,-natCast_mul]
 (first|refine Ab k ?_|refine Aa k ?_)
 simp -implicitDefEqProofs[jJ,-natCast_add,-natCast_mul,e]
theorem Kv:limbs 1=[1]:=rfl
theorem Nn(n:Nat)(hn:n<9223372036854775808):CallsF Tryz.prog 125 [.c (.int .i64 n)] (.u (.agg [.d (.bool false),.d (Ac (limbs n)),.d (Ac (limbs 1))])):=by
 refine Ak (T:=tb) Ah mixed Tryz.func125 rfl (by decide) (Af rfl) rfl ?_;unfold St.init
 simp -implicitDefEqProofs[jJ,-natCast_add,-natCast_mul]
 (first|refine Ab (Rv n hn) ?_|refine Aa (Rv n hn) ?_)
 simp -implicitDefEqProofs[jJ,-natCast_add,-natCast_mul]
 (first|refine Ab Hb ?_|refine Aa Hb ?_)
 simp -implicitDefEqProofs[jJ,-natCast_add,-natCast_mul,AO,sg,Kv]
def ratOk(neg:Bool)(a b:List Nat):Bool:=lastOk a&& !(neg&&decide (a=[]))&& !decide (b=[])&&lastOk b&&decide (Nat.gcd (val a) (val b)=1)
theorem Gc{a:List Nat}(ha:Ok a)(hl:a.length≤4):val a<18446744073709551616:=by
 have:=Bn a ha
 rw[←KV]
 exact Nat.lt_of_lt_of_le this (Nat.pow_le_pow_right (by omega) hl)
theorem KD{n:Nat}:limbs n=[1]↔n=1:=by
 constructor
 ·intro h;have:=Ao n;rw[h]at this
  simpa [val]using this.symm
 ·rintro rfl;rfl
theorem jdf(neg:Bool)(a b:List Nat)(ha:Ok a)(hl:a.length≤4)(hb:Ok b)(hm:b.length≤4):
  CallsF Tryz.prog 99 [.agg [.bool neg,Ac a,Ac b]] (.u (.c (.d (.bool (ratOk neg a b))))):=by
 refine Ak (T:=tb) Ah mixed Tryz.func99 rfl (by decide) (Af rfl) rfl ?_;unfold St.init
 have k:=jgY neg a (by omega)
 have g:=SU a b ha (by omega) hb (by omega) (Gc ha hl) (Gc hb hm)
 unfold ratOk;cases hr:(lastOk a&& !(neg&&decide (a=[])))
 ·rw[hr]at k
  simp -implicitDefEqProofs[jJ,-natCast_add,-natCast_mul]
  (first|refine Ab k ?_|refine Aa k ?_)
  simp -implicitDefEqProofs[jJ,-natCast_add,-natCast_mul]
 ·rw[hr]at k
  rcases Nat.eq_zero_or_pos b.length with h0|h0
  ·have:b=[]:=jzv.1 h0
   subst this;simp -implicitDefEqProofs[jJ,-natCast_add,-natCast_mul]
   (first|refine Ab k ?_|refine Aa k ?_)
   simp -implicitDefEqProofs[jJ,-natCast_add,-natCast_mul]
  ·obtain⟨n,hn⟩: ∃n,b.length=n+1:=⟨b.length - 1,by omega⟩
   have hne:b≠[]:=fun h=>by rw[h]at hn;simp at hn
   obtain⟨x,hx⟩:=EN (a:=b) (n:=n) (by omega)
   have hg:b.getLast? =some x:=by rw[List.getLast?_eq_getElem?,hn];simpa using hx
   have e:b[n]'(by omega)=x:=by
    have:=Am (l:=b) (i:=n) (by omega)
    rw[hx]at this
    exact(AK this).symm
   have o1:=Fq b;have o2:=Fq (limbs (Nat.gcd (val a) (val b)));have v1:b=[1]→val b=1:=fun h=>by rw[h];rfl
   have hlast:lastOk b= !decide (x=0):=by unfold lastOk;rw[hg];simp
   rw[hlast]
   simp -implicitDefEqProofs[jJ,-natCast_add,-natCast_mul,hn]
   (first|refine Ab k ?_|refine Aa k ?_)
   simp -implicitDefEqProofs[jJ,-natCast_add,-natCast_mul,hn,hx,u16,e,hne];refine⟨by omega,fun h h'=>absurd h h',fun hx0=> ?_⟩
   (first|refine Ab o1 ?_|refine Aa o1 ?_)
   by_cases hb1:b=[1]
   ·have e1:Nat.gcd (val a) (val b)=1:=by rw[v1 hb1,Nat.gcd_one_right]
    simp -implicitDefEqProofs[jJ,-natCast_add,-natCast_mul,hb1,hx0];rw[←hb1,e1]
   ·simp -implicitDefEqProofs[jJ,-natCast_add,-natCast_mul,hb1,hx0]
    (first|refine Ab g ?_|refine Aa g ?_)
    simp -implicitDefEqProofs[jJ,-natCast_add,-natCast_mul]
    (first|refine Ab o2 ?_|refine Aa o2 ?_)
    simp -implicitDefEqProofs[jJ,-natCast_add,-natCast_mul,KD]
theorem Uk{m d:Nat}:decide (limbs d=[1])=decide (d=1):=by simp[KD]
theorem TZ(neg:Bool)(m d:Nat)(hm:m<18446744073709551616)(hd:d<18446744073709551616)(h0:d≠0)(hg:Nat.gcd m d=1):
  CallsF Tryz.prog 268 [.agg [.bool neg,Ac (limbs m)],.c (Ac (limbs d))] (.u (.agg [.d (.bool (sg neg m)),.d (Ac (limbs m)),.d (Ac (limbs d))])):=by
 refine Ak (T:=tb) Ah mixed Tryz.func268 rfl (by decide) (Af rfl) rfl ?_;unfold St.init
 have lm:=B9 hm;have ld:=B9 hd;have n1:=DE (limbs d) (An _) (by omega)
 have n2:=NW neg (limbs m) (An _) (by omega)
 have g:=SU (limbs m) (limbs d) (An _) (by omega) (An _) (by omega) (by rw[Ao];exact hm) (by rw[Ao];exact hd)
 have o1:=Fq (limbs d);have o2:=Fq (limbs 1);rw[Ao,Ao,hg]at g;rw[Ao]at n1 n2;simp only[KD]at o1 o2;have hne:limbs d≠[]:=fun h=>h0 (limbs_nil.1 h)
 simp -implicitDefEqProofs[jJ,-natCast_add,-natCast_mul]
 (first|refine Ab n1 ?_|refine Aa n1 ?_)
 simp -implicitDefEqProofs[jJ,-natCast_add,-natCast_mul]
 (first|refine Ab n2 ?_|refine Aa n2 ?_)
 simp -implicitDefEqProofs[jJ,-natCast_add,-natCast_mul,AO];by_cases hz:m=0
 ·subst hz;have:d=1:=by simpa using hg
  subst this;simp -implicitDefEqProofs[jJ,-natCast_add,-natCast_mul,Cc,Kv]
  (first|refine Ab Hb ?_|refine Aa Hb ?_)
  simp -implicitDefEqProofs[jJ,-natCast_add,-natCast_mul,sg];rfl
 ·have hne2:limbs m≠[]:=fun h=>hz (limbs_nil.1 h)
  simp -implicitDefEqProofs[jJ,-natCast_add,-natCast_mul,hne,hne2]
  (first|refine Ab o1 ?_|refine Aa o1 ?_)
  by_cases h1:d=1
  ·subst h1;simp -implicitDefEqProofs[jJ,-natCast_add,-natCast_mul]
  ·simp -implicitDefEqProofs[jJ,-natCast_add,-natCast_mul,h1]
   (first|refine Ab g ?_|refine Aa g ?_)
   simp -implicitDefEqProofs[jJ,-natCast_add,-natCast_mul]
   (first|refine Ab o2 ?_|refine Aa o2 ?_)
   simp -implicitDefEqProofs[jJ,-natCast_add,-natCast_mul]
theorem LT{neg:Bool}{m:Nat}:AQ neg m=0↔m=0:=by
 unfold AQ;split
 ·simp[*]
 ·cases neg<;>simp[*]
theorem jfx(na nb:Bool)(m d:Nat)(hm:m<18446744073709551616)(hd:d<18446744073709551616)(hg:Nat.gcd m d=1):
  CallsF Tryz.prog 264 [.agg [.bool na,Ac (limbs m)],.agg [.bool nb,Ac (limbs d)]]
   (if d=0 then .tup [.agg [.d (.bool false),.d (Ac []),.d (Ac [])],.c (.d (.int .i64 3))]
   else .tup [.agg [.d (.bool (sg (!decide (na=nb)) m)),.d (Ac (limbs m)),.d (Ac (limbs d))],.c (.d (.int .i64 0))]):=by
 have ld:=B9 hd;have s1:=F1 nb (limbs d) (An _) (by omega)
 rw[Ao]at s1
 by_cases h0:d=0
 ·rw[if_pos h0]
  refine Ak (T:=tb) Ah mixed Tryz.func264 rfl (by decide) (Af rfl) rfl ?_;unfold St.init
  simp -implicitDefEqProofs[jJ,-natCast_add,-natCast_mul]
  (first|refine Ab s1 ?_|refine Aa s1 ?_)
  simp -implicitDefEqProofs[jJ,-natCast_add,-natCast_mul,LT,h0];rfl
 ·rw[if_neg h0]
  refine Ak (T:=tb) Ah mixed Tryz.func264 rfl (by decide) (Af rfl) rfl ?_;unfold St.init
  simp -implicitDefEqProofs[jJ,-natCast_add,-natCast_mul]
  (first|refine Ab s1 ?_|refine Aa s1 ?_)
  simp -implicitDefEqProofs[jJ,-natCast_add,-natCast_mul,LT,h0]
  (first|refine Ab (TZ (!decide (na=nb)) m d hm hd h0 hg) ?_|refine Aa (TZ (!decide (na=nb)) m d hm hd h0 hg) ?_)
  simp -implicitDefEqProofs[jJ,-natCast_add,-natCast_mul]
theorem jjr(neg:Bool)(m d:Nat)(hm:m<18446744073709551616)(hd:d<18446744073709551616)(d0:d≠0)(hg:Nat.gcd m d=1):
  CallsF Tryz.prog 288 [.agg [.bool false,Ac (limbs 1),Ac (limbs 1)],.agg [.bool neg,Ac (limbs m),Ac (limbs d)]]
   (if m=0 then .tup [.agg [.d (.bool false),.d (Ac []),.d (Ac [])],.c (.d (.int .i64 3))]
   else .tup [.agg [.d (.bool neg),.d (Ac (limbs d)),.d (Ac (limbs m))],.c (.d (.int .i64 0))]):=by
 have lm:=B9 hm;have ld:=B9 hd;have l1:(limbs 1).length=1:=rfl;have p1:=Ej false (limbs 1) (limbs 1) (An _) (by omega) (by rw[Ao];omega)
 have p2:=Ej neg (limbs m) (limbs d) (An _) (by omega) (by rw[Ao];exact d0)
 have m1:=Gq false false (limbs 1) (limbs d) (An _) (by omega) (An _) (by omega)
 have m2:=Gq neg false (limbs m) (limbs 1) (An _) (by omega) (An _) (by omega)
 rw[Ao,Ao,Nat.one_mul]at m1
 rw[Ao,Ao,Nat.mul_one]at m2
 have k:=jfx (sg false d) (sg neg m) d m hd hm (by rw[Nat.gcd_comm];exact hg)
 have e1:sg (!decide (sg false d=sg neg m)) d=(neg&&decide (0<m)):=by
  have:0<d:=by omega
  cases neg<;>by_cases hz:m=0<;>simp[sg,this,hz]<;>omega
 rw[e1]at k
 refine Ak (T:=tb) Ah mixed Tryz.func288 rfl (by decide) (Af rfl) rfl ?_;unfold St.init
 simp -implicitDefEqProofs[jJ,-natCast_add,-natCast_mul]
 (first|refine Ab p1 ?_|refine Aa p1 ?_)
 simp -implicitDefEqProofs[jJ,-natCast_add,-natCast_mul]
 (first|refine Ab p2 ?_|refine Aa p2 ?_)
 simp -implicitDefEqProofs[jJ,-natCast_add,-natCast_mul];refine At (Ad [0,0,2,7,0,0,47,127,255,511,511,2047,4095]) [.any [] [] (Ap [[6],[9],[21],[20,22],[8],[7],[25]]),.one,.one,.any [] [] (Ap [[28],[28]]),.one,.one] (by rfl) ?_
 simp -implicitDefEqProofs[jJ,-natCast_add,-natCast_mul]
 (first|refine Ab (FW (limbs d)) ?_|refine Aa (FW (limbs d)) ?_)
 simp -implicitDefEqProofs[jJ,-natCast_add,-natCast_mul]
 (first|refine Ab m1 ?_|refine Aa m1 ?_)
 simp -implicitDefEqProofs[jJ,-natCast_add,-natCast_mul,AO]
 (first|refine Ab (FW (limbs 1)) ?_|refine Aa (FW (limbs 1)) ?_)
 simp -implicitDefEqProofs[jJ,-natCast_add,-natCast_mul]
 (first|refine Ab m2 ?_|refine Aa m2 ?_)
 simp -implicitDefEqProofs[jJ,-natCast_add,-natCast_mul,AO]
 (first|refine Ab k ?_|refine Aa k ?_)
 by_cases h0:m=0
 ·simp -implicitDefEqProofs[jJ,-natCast_add,-natCast_mul,h0]
 ·have:0<m:=by omega
  simp -implicitDefEqProofs[jJ,-natCast_add,-natCast_mul,h0,this]
theorem Js(a:List Nat):CallsF Tryz.prog 225 [.c (Ac a)] (.u (.agg [.d (.bool false),.d (Ac a)])):=by
 refine Ak (T:=tb) Ah mixed Tryz.func225 rfl (by decide) (Af rfl) rfl ?_;unfold St.init
 simp -implicitDefEqProofs[jJ,-natCast_add,-natCast_mul]
theorem jhU{m n:Nat}(hm:m<18446744073709551616)(hn:n<18446744073709551616):Nat.gcd m n<18446744073709551616:=by
 rcases Nat.eq_zero_or_pos n with h|h
 ·subst h;rw[Nat.gcd_zero_right];exact hm
 ·exact Nat.lt_of_le_of_lt (Nat.gcd_le_right m h) hn
theorem jcP(neg:Bool)(a b:List Nat)(ha:Ok a)(hl:a.length≤4)(hb:Ok b)(hm:b.length≤4):
  CallsF Tryz.prog 49 [.agg [.bool neg,Ac a,Ac b]] (.u (.c (.d (.bool (ratOk neg a b))))):=by
 refine Ak (T:=tb) Ah mixed Tryz.func49 rfl (by decide) (Af rfl) rfl ?_;unfold St.init
 have k:=Zk neg a (by omega)
 have v:=Ra b (by omega)
 have g:=jjR a b ha (by omega) hb (by omega) (Gc ha hl) (Gc hb hm)
 have s:=jiW (limbs (Nat.gcd (val a) (val b))) (limbs 1) (by have:=B9 (jhU (Gc ha hl) (Gc hb hm));omega)
 unfold ratOk;cases hr:(lastOk a&& !(neg&&decide (a=[])))
 ·rw[hr]at k
  simp -implicitDefEqProofs[jJ,-natCast_add,-natCast_mul]
  (first|refine Ab k ?_|refine Aa k ?_)
  simp -implicitDefEqProofs[jJ,-natCast_add,-natCast_mul]
 ·rw[hr]at k
  simp -implicitDefEqProofs[jJ,-natCast_add,-natCast_mul]
  (first|refine Ab k ?_|refine Aa k ?_)
  simp -implicitDefEqProofs[jJ,-natCast_add,-natCast_mul]
  (first|refine Ab v ?_|refine Aa v ?_)
  cases hv:lastOk b
  ·simp -implicitDefEqProofs[jJ,-natCast_add,-natCast_mul]
  ·simp -implicitDefEqProofs[jJ,-natCast_add,-natCast_mul]
   (first|refine Ab g ?_|refine Aa g ?_)
   simp -implicitDefEqProofs[jJ,-natCast_add,-natCast_mul]
   (first|refine Ab (FZ 1 (by omega)) ?_|refine Aa (FZ 1 (by omega)) ?_)
   simp -implicitDefEqProofs[jJ,-natCast_add,-natCast_mul]
   (first|refine Ab s ?_|refine Aa s ?_)
   simp -implicitDefEqProofs[jJ,-natCast_add,-natCast_mul];simp only[Kv,KD];refine⟨fun h1=> ?_,fun h1 _ h2=>h1 h2⟩
   cases b<;>simp[h1]
theorem Kp(a:Int):CallsF Tryz.prog 203 [.c (.int .i64 a)] (.u (.c (.d (.bool false)))):=by
 refine Ak (T:=tb) Ah mixed Tryz.func203 rfl (by decide) (Af rfl) rfl ?_;unfold St.init
 simp -implicitDefEqProofs[jJ,-natCast_add,-natCast_mul]
theorem FG(a b:Int):CallsF Tryz.prog 128 [.c (.int .i64 a),.c (.int .i64 b)] (.u (.c (.d (.int .i64 (cmpZ a b))))):=by
 refine Ak (T:=tb) Ah mixed Tryz.func128 rfl (by decide) (Af rfl) rfl ?_;unfold St.init
 simp -implicitDefEqProofs[jJ,-natCast_add,-natCast_mul]
 (first|refine Ab (Kp a) ?_|refine Aa (Kp a) ?_)
 simp -implicitDefEqProofs[jJ,-natCast_add,-natCast_mul]
 (first|refine Ab (Kp b) ?_|refine Aa (Kp b) ?_)
 simp -implicitDefEqProofs[jJ,-natCast_add,-natCast_mul];unfold cmpZ;refine⟨fun h=>by rw[if_pos h],fun h=>⟨fun h2=>by rw[if_neg (by omega),if_pos h2],fun h2=>by rw[if_neg (by omega),if_neg (by omega)]⟩⟩
def CG:List Int→Int
 |[]=>0
 |a::l=>if a=0 then CG l else a
theorem jaF{l:List Int}{i:Nat}(h:i<l.length):CG (l.drop i)=if l[i]=0 then CG (l.drop (i+1)) else l[i]:=by
 rw[AX h]
 rfl
theorem Kl(l:List Int)(hl:l.length≤1099511627776):CallsF Tryz.prog 127 [.c (intsD l)] (.u (.c (.d (.int .i64 (CG l))))):=by
 refine Ak (T:=tb) Ah mixed Tryz.func127 rfl (by decide) (Af rfl) rfl ?_;unfold St.init
 simp -implicitDefEqProofs[jJ,-natCast_add,-natCast_mul];refine AF (fun i:Nat=>⟨[(8,vI .i64 i),(7,vI .i64 l.length),(6,vC (.d (intsD l))),(3,vI .i64 0)],[]⟩) (fun i=>i≤l.length∧CG (l.drop i)=CG l) (fun i=>l.length - i) 0 (by simp) ⟨by omega,rfl⟩ ?_
 rintro i ⟨h1,h2⟩
 by_cases h:i<l.length
 ·have e:=jaF h;by_cases h0:l[i]=0
  ·rw[h0]at e
   simp -implicitDefEqProofs[jJ,-natCast_add,-natCast_mul,h,h0,i64];rw[if_pos rfl]at e;exact⟨by omega,⟨by omega,by rw[←e,h2]⟩,by omega⟩
  ·simp -implicitDefEqProofs[jJ,-natCast_add,-natCast_mul,h,h0,i64];rw[←h2,e,if_neg h0]
 ·have:i=l.length:=by omega
  subst this;simp -implicitDefEqProofs[jJ,-natCast_add,-natCast_mul];rw[List.drop_length]at h2;exact h2
def A6:List Int→List Int→Int
 |[],[]=>0
 |[],_::_=> -1
 |_::_,[]=>1
 |a::x,b::y=>if cmpZ a b=0 then A6 x y else cmpZ a b
theorem Yz(y:List Int):A6 [] y=if 0<y.length then -1 else 0:=by cases y<;>simp[A6]
theorem jiA{x y:List Int}{i:Nat}(h:i<x.length)(hy:i<y.length):A6 (x.drop i) (y.drop i)=if cmpZ x[i] y[i]=0 then A6 (x.drop (i+1)) (y.drop (i+1)) else cmpZ x[i] y[i]:=by
 rw[AX h,AX hy]
 rfl
theorem jcL{x y:List Int}{i:Nat}(h:i<x.length)(hy:i=y.length):A6 (x.drop i) (y.drop i)=1:=by
 subst hy;rw[AX h,List.drop_length];rfl
theorem Rh(x y:List Int)(hx:x.length≤1099511627776)(hy:y.length≤1099511627776):CallsF Tryz.prog 129 [.c (intsD x),.c (intsD y)] (.u (.c (.d (.int .i64 (A6 x y))))):=by
 refine Ak (T:=tb) Ah mixed Tryz.func129 rfl (by decide) (Af rfl) rfl ?_;unfold St.init
 simp -implicitDefEqProofs[jJ,-natCast_add,-natCast_mul];refine AF (fun i:Nat=>⟨[(11,vI .i64 i),(10,vI .i64 x.length),(9,vC (.d (intsD x))),(0,vC (.d (intsD x))),(1,vC (.d (intsD y)))],[]⟩) (fun i=>i≤x.length∧i≤y.length∧A6 (x.drop i) (y.drop i)=A6 x y) (fun i=>x.length - i) 0 (by simp) ⟨by omega,by omega,rfl⟩ ?_
 rintro i ⟨h1,h3,h2⟩
 by_cases h:i<x.length
 ·by_cases hb:i<y.length
  ·have e:=jiA h hb;have hn: ¬y.length≤i:=by omega
   simp -implicitDefEqProofs[jJ,-natCast_add,-natCast_mul,h,hb,hn,i64]
   (first|refine Ab (FG x[i] y[i]) ?_|refine Aa (FG x[i] y[i]) ?_)
   by_cases h0:cmpZ x[i] y[i]=0
   ·rw[if_pos h0]at e
    simp -implicitDefEqProofs[jJ,-natCast_add,-natCast_mul,h0];exact⟨by omega,⟨by omega,by omega,by rw[←e,h2]⟩,by omega⟩
   ·rw[if_neg h0]at e
    simp -implicitDefEqProofs[jJ,-natCast_add,-natCast_mul,h0];rw[←h2,e]
  ·have e:i=y.length:=by omega
   have e2:=jcL h e;rw[h2]at e2;have hn:y.length≤i:=by omega
   simp -implicitDefEqProofs[jJ,-natCast_add,-natCast_mul,h,hn,i64];rw[e2]
 ·have:i=x.length:=by omega
  subst this;rw[List.drop_length,Yz,List.length_drop]at h2;rw[←h2];by_cases hb:x.length<y.length
  ·rw[if_pos (by omega)]
   simp -implicitDefEqProofs[jJ,-natCast_add,-natCast_mul,hb]
  ·rw[if_neg (by omega)]
   simp -implicitDefEqProofs[jJ,-natCast_add,-natCast_mul,hb]
def Fk:List Int→Int→Nat→Int
 |[],_,_=> -1
 |a::l,v,i=>if v=a then i else Fk l v (i+1)
theorem TM: ∀(l:List Int) (v:Int) (i:Nat),0≤Fk l v i↔v∈l
 |[],v,i=>by simp[Fk]
 |a::l,v,i=>by
  unfold Fk;by_cases h:v=a
  ·rw[if_pos h];simp[h]
  ·rw[if_neg h,TM l v (i+1)];simp[h]
theorem jh5{l:List Int}{v:Int}{i:Nat}(h:i<l.length):Fk (l.drop i) v i=if v=l[i] then (i:Int) else Fk (l.drop (i+1)) v (i+1):=by
 rw[AX h]
 rfl
theorem jdC(l:List Int)(v:Int)(hl:l.length≤1099511627776):CallsF Tryz.prog 200 [.c (intsD l),.c (.int .i64 v)] (.u (.c (.d (.int .i64 (Fk l v 0))))):=by
 refine Ak (T:=tb) Ah mixed Tryz.func200 rfl (by decide) (Af rfl) rfl ?_;unfold St.init
 simp -implicitDefEqProofs[jJ,-natCast_add,-natCast_mul];refine AF (fun i:Nat=>⟨[(8,vI .i64 i),(7,vI .i64 l.length),(6,vC (.d (intsD l))),(0,vC (.d (intsD l))),(1,vI .i64 v)],[]⟩) (fun i=>i≤l.length∧Fk (l.drop i) v i=Fk l v 0) (fun i=>l.length - i) 0 (by simp) ⟨by omega,rfl⟩ ?_
 rintro i ⟨h1,h2⟩
 by_cases h:i<l.length
 ·have e:=jh5 (v:=v) h;by_cases h0:v=l[i]
  ·rw[if_pos h0]at e
   simp -implicitDefEqProofs[jJ,-natCast_add,-natCast_mul,h,←h0,i64];rw[←h2,e]
  ·rw[if_neg h0]at e
   simp -implicitDefEqProofs[jJ,-natCast_add,-natCast_mul,h,h0,i64];exact⟨by omega,⟨by omega,by rw[←e,h2]⟩,by omega⟩
 ·have:i=l.length:=by omega
  subst this;rw[List.drop_length]at h2;simp -implicitDefEqProofs[jJ,-natCast_add,-natCast_mul];exact h2
theorem Xp(l:List Int)(v:Int)(hl:l.length≤1099511627776):CallsF Tryz.prog 123 [.c (intsD l),.c (.int .i64 v)] (.u (.c (.d (.bool (decide (v∈l)))))):=by
 refine Ak (T:=tb) Ah mixed Tryz.func123 rfl (by decide) (Af rfl) rfl ?_;unfold St.init
 have e:=TM l v 0;have k:=jdC l v hl;simp -implicitDefEqProofs[jJ,-natCast_add,-natCast_mul]
 (first|refine Ab k ?_|refine Aa k ?_)
 simp -implicitDefEqProofs[jJ,-natCast_add,-natCast_mul,e]
theorem VS{α:Type}{T:Au}{t:TypeId}{i:TI}(hT:T t=some i)(hz:i.zero=[.nl])(ha:i.agg=false)(e:α→D){l:List α}(hl:l≠[]):binV T .eql t (.u (.c (.d (Cl e l)))) (.u (.c .nl))=some (vB false):=by
 have hn:l.length≠0:=fun h=>hl (jzv.1 h)
 show(T t).bind _=_
 rw[hT]
 simp only[Option.bind_some];have:EH i (.u (.c (.d (Cl e l)))) (.u (.c .nl))=some false:=by
  unfold EH Cl;simp only[hz,ha];rw[if_neg (by simp),if_neg hn]
 rw[this]
 rfl
theorem NH(l:List Int)(hl:l.length≤1099511627776)(h0:l≠[]):CallsF Tryz.prog 289 [.c (intsD l)] (.u (.c (.own 1 l.length (l.map i64)))):=by
 refine Ak (T:=tb) Ah mixed Tryz.func289 rfl (by decide) (Af rfl) rfl ?_;unfold St.init
 have:l.length≠0:=fun h=>h0 (jzv.1 h)
 have e:=VS (T:=tb) (t:=43) rfl rfl rfl i64 h0;simp -implicitDefEqProofs[jJ,-natCast_add,-natCast_mul,e];exact⟨by omega,by omega⟩
structure Fct where
 kind:Int
 args:List Int
 neg:Bool
 abs:List Nat
 den:List Nat
 deriving DecidableEq
@[simp]def Fct.ds(f:Fct):List D:=[.int .i64 f.kind,intsD f.args,.bool f.neg,Ac f.abs,Ac f.den]
def arity(k:Int):Nat:=if k=1∨k=5 then 3 else if k=2∨k=3∨k=4∨k=6∨k=9 then 4 else if k=7 then 8 else if k=8 then 2 else 0
theorem Tl(k:Int):CallsF Tryz.prog 98 [.c (.int .i64 k)] (.u (.c (.d (.int .i64 (arity k))))):=by
 refine Ak (T:=tb) Ah mixed Tryz.func98 rfl (by decide) (Af rfl) rfl ?_;unfold St.init
 by_cases h1:k=1
 ·subst h1;simp -implicitDefEqProofs[jJ,-natCast_add,-natCast_mul,arity]
 by_cases h2:k=2
 ·subst h2;simp -implicitDefEqProofs[jJ,-natCast_add,-natCast_mul,arity]
 by_cases h3:k=3
 ·subst h3;simp -implicitDefEqProofs[jJ,-natCast_add,-natCast_mul,arity]
 by_cases h4:k=4
 ·subst h4;simp -implicitDefEqProofs[jJ,-natCast_add,-natCast_mul,arity]
 by_cases h5:k=5
 ·subst h5;simp -implicitDefEqProofs[jJ,-natCast_add,-natCast_mul,arity]
 by_cases h6:k=6
 ·subst h6;simp -implicitDefEqProofs[jJ,-natCast_add,-natCast_mul,arity]
 by_cases h7:k=7
 ·subst h7;simp -implicitDefEqProofs[jJ,-natCast_add,-natCast_mul,arity]
 by_cases h8:k=8
 ·subst h8;simp -implicitDefEqProofs[jJ,-natCast_add,-natCast_mul,arity]
 by_cases h9:k=9
 ·subst h9;simp -implicitDefEqProofs[jJ,-natCast_add,-natCast_mul,arity]
 simp -implicitDefEqProofs[jJ,-natCast_add,-natCast_mul,arity,h1,h2,h3,h4,h5,h6,h7,h8,h9]
def GI(neg:Bool)(a b:List Nat):Bool:= !neg&&decide (a=[])&&decide (b=[])
theorem jdx(neg:Bool)(a b:List Nat):CallsF Tryz.prog 100 [.agg [.bool neg,Ac a,Ac b]] (.u (.c (.d (.bool (GI neg a b))))):=by
 refine Ak (T:=tb) Ah mixed Tryz.func100 rfl (by decide) (Af rfl) rfl ?_;unfold St.init
 cases neg<;>cases a<;>cases b<;>simp -implicitDefEqProofs[jJ,-natCast_add,-natCast_mul,GI]
def IM(f:Fct)(n:Int):Int:=
 if arity f.kind=0 then 8 else if f.args.length≠arity f.kind then 1 else if f.args.any (fun a=>decide (a<0)||decide (n≤a)) then 2
 else if (if f.kind=9 then ratOk f.neg f.abs f.den else GI f.neg f.abs f.den) then 0 else 1
structure Fct.Mild (f:Fct):Prop where
 la:f.abs.length≤4
 ld:f.den.length≤4
 oa:Ok f.abs
 od:Ok f.den
 ln:f.args.length≤1099511627776
theorem WJ{l:List Int}{p:Int→Bool}{i:Nat}(h:i<l.length):(l.drop i).any p=(p l[i]||(l.drop (i+1)).any p):=by
 rw[AX h,List.any_cons]
theorem Yg(f:Fct)(hf:f.Mild)(n:Int):CallsF Tryz.prog 44 [.agg f.ds,.c (.int .i64 n)] (.u (.c (.d (.int .i64 (IM f n))))):=by
 refine Ak (T:=tb) Ah mixed Tryz.func44 rfl (by decide) (Af rfl) rfl ?_;unfold St.init
 obtain⟨kind,args,neg,abs,den⟩:=f
 obtain⟨la,ld,oa,od,ln⟩:=hf
 simp only at la ld oa od ln;simp only[Fct.ds,IM];simp -implicitDefEqProofs[jJ,-natCast_add,-natCast_mul]
 (first|refine Ab (Tl kind) ?_|refine Aa (Tl kind) ?_)
 generalize arity kind=ar at*;by_cases h1:ar=0
 ·simp -implicitDefEqProofs[jJ,-natCast_add,-natCast_mul,h1]
 by_cases h2:args.length=ar
 ·simp -implicitDefEqProofs[jJ,-natCast_add,-natCast_mul,h1,h2];refine AF (fun i:Nat=>⟨[(21,vI .i64 i),(20,vI .i64 (ar:Nat)),(19,vC (.d (intsD args))),(2,vC (.ptr 2 0)),(1,vI .i64 n)],[(2,.box [.d (.int .i64 kind),.d (intsD args),.d (.bool neg),.d (Ac abs),.d (Ac den)])]⟩) (fun i=>i≤args.length∧(args.drop i).any (fun a=>decide (a<0)||decide (n≤a))=args.any (fun a=>decide (a<0)||decide (n≤a))) (fun i=>args.length - i) 0 (by simp) ⟨by omega,rfl⟩ ?_
  rintro i ⟨h3,h4⟩
  by_cases h:i<args.length
  ·have e:=WJ (p:=fun a=>decide (a<0)||decide (n≤a)) h
   have hk:i<ar:=by omega
   rw[e]at h4
   by_cases h5:args[i]<0
   ·simp -implicitDefEqProofs[jJ,-natCast_add,-natCast_mul,h,hk,h5,i64];intro hh;have:=hh _ (AD h);omega
   ·by_cases h6:n≤args[i]
    ·simp -implicitDefEqProofs[jJ,-natCast_add,-natCast_mul,h,hk,h5,h6,i64];intro hh;have:=hh _ (AD h);omega
    ·simp -implicitDefEqProofs[jJ,-natCast_add,-natCast_mul,h,hk,h5,h6,i64];simp only[decide_eq_false h5,decide_eq_false h6,Bool.false_or]at h4;exact⟨by omega,⟨by omega,h4⟩,by omega⟩
  ·have hk: ¬i<ar:=by omega
   have e:i=args.length:=by omega
   rw[e,List.drop_length]at h4
   have h4': ∀x∈args,0≤x∧x<n:=by simpa using h4.symm
   rw[←h4]
   have k1:=jdf neg abs den oa (by omega) od (by omega)
   have k2:=jdx neg abs den;by_cases h9:kind=9
   ·simp -implicitDefEqProofs[jJ,-natCast_add,-natCast_mul,hk,h9]
    (first|refine Ab k1 ?_|refine Aa k1 ?_)
    cases ratOk neg abs den<;>simp -implicitDefEqProofs[jJ,-natCast_add,-natCast_mul]<;>exact h4'
   ·simp -implicitDefEqProofs[jJ,-natCast_add,-natCast_mul,hk,h9]
    (first|refine Ab k2 ?_|refine Aa k2 ?_)
    cases GI neg abs den<;>simp -implicitDefEqProofs[jJ,-natCast_add,-natCast_mul]<;>exact h4'
 ·simp -implicitDefEqProofs[jJ,-natCast_add,-natCast_mul,h1,h2]
end Go.Va
