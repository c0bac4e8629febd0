/- a part of the proof -/
import Derived.Test.YtplacedebenpaaaGreatDoorEaq
import Derived.Test.YtplacedebenpaaaGreatDoorEam
import Derived.Test.YtplacedebenpaaaGreatDoorEao
set_option linter.all false
set_option maxHeartbeats 4000000
set_option maxRecDepth 10000
namespace Go.Va
open _root_.Nat renaming gcd → aD, gcd_comm → aG, gcd_zero_right → aH, mod_lt → aI, gcd_rec → aJ
open Int renaming natCast_add → qA, natCast_mul → qB, natCast_emod → qC, natCast_ediv → qD, natCast_pow → qE
open Go.Proofs Go.Proofs.Tryz
theorem L5[DrC](a b:List Nat)(j:Ok a)(L:a.length<=900)(k:Ok b)(M:b.length<=900):
  CallsF prog 249 [.c (Ad a),.c (Ad b)] (.u (.c (.d (Ad (limbs (aD (val a) (val b))))))):=by
 refine oB func249 ?_;refine aB (EO a j O) ?_;refine aB (EO b k O) ?_;have W:=Bu a j;have X:=Bu b k;have S:(limbs (val a)).length<=900:=O;have T:(limbs (val b)).length<=900:=O;clear L M j k W X;generalize val a=m at*;generalize val b=n at*;refine AV (λp:Nat×Nat=>⟨[(0,vC (.d (Ad (limbs p.1)))),(1,vC (.d (Ad (limbs p.2))))],[]⟩) (λp=>aD p.1 p.2=aD m n/\(limbs p.1).length<=900/\(limbs p.2).length<=900) (λp=>p.2) (m,n) O1 ⟨rfl,S,T⟩ ?_;rintro⟨x,y⟩ ⟨i,v,f⟩;simp only at i v f;by_cases E:y=0
 ·subst E;simp -implicitDefEqProofs[jJ,-qA,-qB,-qC,-qD,-qE,Cm];rw[<-i,aH]
 ·have N:0<(limbs y).length:=limbs_pos_len.2 O;have H:=S4 (limbs x) (Aw _) O;have I:=S4 (limbs y) (Aw _) O;rw[Az]at H I;have d:=LV (limbs x) (limbs y) (Aw _) (Aw _) v f (by rw[Az];exact E);rw[Az,Az]at d;have h:(limbs (x%y)).length<=900:=Nat.le_trans (CG (Nat.le_of_lt (aI _ O))) f;have e:aD y (x%y)=aD m n:=by rw[aG,<-aJ,aG,i]
  have g:x%y<y:=aI _ O;refine rB1 N ?_;refine aB H ?_;refine aB I ?_;cases r:EL x
  ·refine rB ?_;refine aB d ?_;exact⟨y,x%y,⟨rfl,rfl⟩,⟨e,f,h⟩,g⟩
  ·cases t:EL y
   ·refine rB ?_;refine aB d ?_;exact⟨y,x%y,⟨rfl,rfl⟩,⟨e,f,h⟩,g⟩
   ·have P:FV x=x:=by simp[FV,r]
    have Q:FV y=y:=by simp[FV,t]
    have J:=fits64_iff.1 r;have K:=fits64_iff.1 t;refine rB2 P Q ?_;refine AV (λp:Nat×Nat=>⟨[(5,vI .u64 p.1),(7,vI .u64 p.2)],[]⟩) (λp=>aD p.1 p.2=aD m n/\p.1<18446744073709551616/\p.2<18446744073709551616) (λp=>p.2) (x,y) (by simp[AW,lk,St.le,vI]) ⟨i,J,K⟩ ?_;rintro⟨z,w⟩ ⟨o,q,G⟩;simp only at o q G;by_cases F:0<w
    ·refine rB1 F ?_;refine AA (Ah [0,0,0,6,3,31]) [.any [] [] (Aq [[7],[5],[7],[36,37],[35]]),.one] O5 ?_;have l:w≠0:=O;refine rB1 l ?_;refine⟨w,z%w,⟨rfl,rfl⟩,⟨?_,G,Nat.lt_of_le_of_lt (Nat.mod_le _ _) q⟩,aI _ F⟩;rw[aG,<-aJ,aG,o]
    ·have:w=0:=O;subst this;refine rB ?_;refine aB (IA z q) ?_;rw[<-o,aH]
theorem jmo[DrC](a:List Nat):CallsF prog 164 [.c (Ad a)] (.u (.agg [.d (.bool false),.d (Ad a)])):=by
 refine cO func164 rfl ?_;exact kA
theorem El[DrC](neg:Bool)(a b:List Nat)(f:Ok b)(g:b.length<=1099511627776)(e:val b≠0):
  CallsF prog 161 [.agg [.bool neg,Ad a,Ad b]] (.tup [.agg [.d (.bool neg),.d (Ad a)],.c (.d (Ad b))]):=by
 refine oA func161 ?_;refine Ac (RH b f g) ?_;have i:FN (val b)≠0:=λh=>e ((Oy _).1 h);refine rA1 i ?_;refine AA (Ah [0,1,0,4,3,31]) [.any [] [] [⟨0,[1],[],[],[]⟩,⟨0,[10],[],[],[]⟩,⟨0,[1],[2],[],[]⟩,⟨0,[12],[2],[],[]⟩,⟨2,[2,11],[],[],[2]⟩],.one] O5 ?_;exact kA
theorem jj1[DrC](neg:Bool)(a b:List Nat)(f:Ok a)(h:a.length<=1099511627776)(g:Ok b)(i:b.length<=1099511627776)(e:val b≠0):
  CallsF prog 160 [.agg [.bool neg,Ad a,Ad b]] (.u (.c (.d (.int .i64 (Bg neg (val a)))))):=by
 refine oA func160 ?_;refine aA (El neg a b g i e) ?_;refine Ac (HS neg a f h) ?_;exact kA
theorem jmP(a b:Int):Nk a b=0↔a=b:=by
 unfold Nk;split
 ·simp;omega
 ·split
  ·simp;omega
  ·simp;omega
theorem jcw(neg:Bool)(m d:Nat):LG neg (m*d)=LG neg m*d:=by
 unfold LG;split
 ·rw[Int.neg_mul,Int.natCast_mul]
 ·rw[Int.natCast_mul]
theorem jrQ(neg:Bool)(m d:Nat)(h:d≠0):Bg neg (m*d)=Bg neg m:=by
 unfold Bg;simp[Nat.mul_eq_zero,h]
theorem jl5[DrC](e f:Bool)(a b c d:List Nat)(m:Ok a)(z:a.length<=1000000)(g:Ok b)(E:b.length<=1000000)(o:Ok c)(F:c.length<=1000000)(i:Ok d)(G:d.length<=1000000)(j:val b≠0)(l:val d≠0):
  CallsF prog 92 [.agg [.bool e,Ad a,Ad b],.agg [.bool f,Ad c,Ad d]] (.u (.c (.d (.int .i64 (Nk (LG e (val a)*val d) (LG f (val c)*val b)))))):=by
 refine oA func92 ?_;refine AA (Ah [0,1,0,7,15,31]) [.any [] [] (Aq [[2],[11],[3]]),.one,.one,.one] O5 ?_;refine rA ?_;refine aA (jj1 e a b m O g O j) ?_;refine Ac (jj1 f c d o O i O l) ?_;have p:=jrQ e (val a) (val d) l;have q:=jrQ f (val c) (val b) j;rw[<-jcw,<-jcw];have r:Bg e (val a)<Bg f (val c)->Nk (LG e (val a*val d)) (LG f (val c*val b))= -1:=λh=>jns (by rw[p,q];exact h);have t:Bg f (val c)<Bg e (val a)->Nk (LG e (val a*val d)) (LG f (val c*val b))=1:=λh=>jqt (by rw[p,q];exact h);have H:=jeD e false a d m O i O;have I:=jeD f false c b o O g O;have v:=Cp a d m i;have w:=Cp c b o g;have k:=juX (sg e (val a*val d)) (sg f (val c*val b)) (limbs (val a*val d)) (limbs (val c*val b)) (Aw _) O (Aw _) O;rw[Az,Az,QP,QP]at k;have J:=El e a b g O j;have K:=El f c d i O l;have L:=jmo d;have M:=jmo b;clear m z g E o F i G j l v w p q;rcases Int.lt_trichotomy (Bg e (val a)) (Bg f (val c))with h|h|h
 ·rw[r h];have:Bg e (val a)≠Bg f (val c):=O;exact kA2 this h
 ·refine rA1 h ?_;refine aA J ?_;refine aA K ?_;refine AA (Ah [0,0,2,7,0,0,47,127,255,511]) [.any [] [] (Aq [[7],[10],[32],[31,33],[9],[8],[36]]),.one,.one,.one] O5 ?_;refine rA ?_;refine aA L ?_;refine aV H ?_;refine aA M ?_;refine aV I ?_;refine Ac k ?_;exact kA
 ·rw[t h];have x:Bg e (val a)≠Bg f (val c):=O;have y: ¬Bg e (val a)<Bg f (val c):=O;exact kA2 x y
theorem jxm[DrC](f g:Bool)(a b c d:List Nat)(j:Ok a)(p:a.length<=1000000)(l:Ok b)(q:b.length<=1000000)(m:Ok c)(r:c.length<=1000000)(o:Ok d)(t:d.length<=1000000)(h:val b≠0)(i:val d≠0):
  CallsF prog 262 [.agg [.bool f,Ad a,Ad b],.agg [.bool g,Ad c,Ad d]] (.u (.c (.d (.bool (decide (LG f (val a)*val d=LG g (val c)*val b)))))):=by
 refine cO func262 rfl ?_;have k:=jl5 f g a b c d j p l q m r o t h i;have e:=jmP (LG f (val a)*val d) (LG g (val c)*val b);clear j p l q m r o t h i;refine rA ?_;refine Ac k ?_;exact kA1 e
theorem Ea:limbs 1=[1]:=rfl
theorem jd8[DrC](n:Nat)(a:n<9223372036854775808):CallsF prog 187 [.c (.int .i64 n)] (.u (.agg [.d (.bool false),.d (Ad (limbs n)),.d (Ad (limbs 1))])):=by
 refine oA func187 ?_;refine aA (jvB n a) ?_;refine Ac Ir ?_;simp -implicitDefEqProofs[jJ,-qA,-qB,AU,sg,Ea]
def CV(neg:Bool)(a b:List Nat):Bool:=Nr a&& !(neg&&decide (a=[]))&& !decide (b=[])&&Nr b&&decide (aD (val a) (val b)=1)
theorem jak{a:List Nat}(b:Ok a)(e:a.length<=8):val a<340282366920938463463374607431768211456:=by
 have:=Bz a b;rw[<-QK];exact Nat.lt_of_lt_of_le this (Nat.pow_le_pow_right O e)
theorem Hx{n:Nat}:limbs n=[1]↔n=1:=by
 constructor
 ·intro h;have:=Az n;rw[h]at this;simpa [val]using this.symm
 ·rintro rfl;rfl
theorem PB[DrC](neg:Bool)(a b:List Nat)(v:Ok a)(G:a.length<=900)(w:Ok b)(H:b.length<=900):
  CallsF prog 158 [.agg [.bool neg,Ad a,Ad b]] (.u (.c (.d (.bool (CV neg a b))))):=by
 refine cO func158 rfl ?_;have k:=jbv neg a O;have g:=L5 a b v O w O;unfold CV;cases p:(Nr a&& !(neg&&decide (a=[])))
 ·rw[p]at k;refine rA ?_;refine Ac k ?_;exact kA
 ·rw[p]at k;rcases Nat.eq_zero_or_pos b.length with h0|h0
  ·have:b=[]:=jzv.1 h0;subst this;refine rA ?_;refine Ac k ?_;exact kA
  ·obtain⟨n,hn⟩: ∃n,b.length=n+1:=⟨b.length - 1,O⟩
   have o:b≠[]:=λh=>by rw[h]at hn;simp at hn
   obtain⟨x,q⟩:=EI (a:=b) (n:=n) O;have y:b.getLast? =some x:=by rw[List.getLast?_eq_getElem?,hn];simpa using q
   have e:b[n]' O=x:=by
    have:=AD (l:=b) (i:=n) O;rw[q]at this;exact(Bi this).symm
   have z:=EK b;have E:=EK (limbs (aD (val a) (val b)));have F:b=[1]->val b=1:=λh=>by rw[h];rfl
   have j:Nr b= !decide (x=0):=by unfold Nr;rw[y];simp
   rw[j];refine rA1 hn ?_;refine Ac k ?_;simp -implicitDefEqProofs[jJ,-qA,-qB,hn,u16,e,o];refine⟨O,λh t=>absurd h t,λm=> ?_⟩;refine Ac z ?_;by_cases f:b=[1]
   ·have r:aD (val a) (val b)=1:=by rw[F f,Nat.gcd_one_right]
    refine rA2 f m ?_;rw[<-f,r]
   ·refine rA2 f m ?_;refine aA g ?_;refine Ac E ?_;simp -implicitDefEqProofs[jJ,-qA,-qB,Hx]
theorem jfj{m d:Nat}:decide (limbs d=[1])=decide (d=1):=by simp[Hx]
theorem jyS[DrC](neg:Bool)(m d:Nat)(r:m<340282366920938463463374607431768211456)(q:d<340282366920938463463374607431768211456)(p:d≠0)(f:aD m d=1):
  CallsF prog 223 [.agg [.bool neg,Ad (limbs m)],.c (Ad (limbs d))] (.u (.agg [.d (.bool (sg neg m)),.d (Ad (limbs m)),.d (Ad (limbs d))])):=by
 refine cO func223 rfl ?_;have v:=BP r;have t:=BP q;have j:=EO (limbs d) (Aw _) O;have k:=QB neg (limbs m) (Aw _) O;have g:=L5 (limbs m) (limbs d) (Aw _) O (Aw _) O;have l:=EK (limbs d);have o:=EK (limbs 1);rw[Az,Az,f]at g;rw[Az]at j k;simp only[Hx]at l o;have b:limbs d≠[]:=λh=>p (limbs_nil.1 h);refine rA ?_;refine aA j ?_;refine aV k ?_;by_cases i:m=0
 ·subst i;have:d=1:=by simpa using f
  subst this;simp -implicitDefEqProofs[jJ,-qA,-qB,Cm,Ea];refine Ac Ir ?_;simp -implicitDefEqProofs[jJ,-qA,-qB,sg];rfl
 ·have a:limbs m≠[]:=λh=>i (limbs_nil.1 h);refine rA2 b a ?_;refine Ac l ?_;by_cases e:d=1
  ·subst e;exact kA
  ·refine rA1 e ?_;refine aA g ?_;refine Ac o ?_;exact kA
theorem Zd{neg:Bool}{m:Nat}:Bg neg m=0↔m=0:=by
 unfold Bg;split
 ·simp[*]
 ·cases neg<;>simp[*]
theorem juL[DrC](e b:Bool)(m d:Nat)(i:m<340282366920938463463374607431768211456)(g:d<340282366920938463463374607431768211456)(h:aD m d=1):
  CallsF prog 345 [.agg [.bool e,Ad (limbs m)],.agg [.bool b,Ad (limbs d)]]
   (if d=0 then .tup [.agg [.d (.bool false),.d (Ad []),.d (Ad [])],.c (.d (.int .i64 3))]
   else .tup [.agg [.d (.bool (sg (!decide (e=b)) m)),.d (Ad (limbs m)),.d (Ad (limbs d))],.c (.d (.int .i64 0))]):=by
 have j:=BP g;have f:=HS b (limbs d) (Aw _) O;rw[Az]at f;by_cases a:d=0
 ·rw[if_pos a];refine oA func345 ?_;refine Ac f ?_;simp -implicitDefEqProofs[jJ,-qA,-qB,Zd,a];rfl
 ·rw[if_neg a];refine oA func345 ?_;refine Ac f ?_;simp -implicitDefEqProofs[jJ,-qA,-qB,Zd,a];refine Ac (jyS (!decide (e=b)) m d i g a h) ?_;exact kA
theorem jnm[DrC](neg:Bool)(m d:Nat)(e:m<340282366920938463463374607431768211456)(b:d<340282366920938463463374607431768211456)(h:d≠0)(j:aD m d=1):
  CallsF prog 263 [.agg [.bool false,Ad (limbs 1),Ad (limbs 1)],.agg [.bool neg,Ad (limbs m),Ad (limbs d)]]
   (if m=0 then .tup [.agg [.d (.bool false),.d (Ad []),.d (Ad [])],.c (.d (.int .i64 3))]
   else .tup [.agg [.d (.bool neg),.d (Ad (limbs d)),.d (Ad (limbs m))],.c (.d (.int .i64 0))]):=by
 have t:=BP e;have r:=BP b;have q:(limbs 1).length=1:=rfl;have o:=El false (limbs 1) (limbs 1) (Aw _) O (by rw[Az];omega);have p:=El neg (limbs m) (limbs d) (Aw _) O (by rw[Az];exact h);have f:=jeD false false (limbs 1) (limbs d) (Aw _) O (Aw _) O;have g:=jeD neg false (limbs m) (limbs 1) (Aw _) O (Aw _) O;rw[Az,Az,Nat.one_mul]at f;rw[Az,Az,Nat.mul_one]at g;have k:=juL (sg false d) (sg neg m) d m b e (by rw[aG];exact j);have i:sg (!decide (sg false d=sg neg m)) d=(neg&&decide (0<m)):=by
  have:0<d:=O;cases neg<;>by_cases l:m=0<;>simp[sg,this,l]<;>omega
 rw[i]at k;refine oA func263 ?_;refine aA o ?_;refine aA p ?_;refine AA (Ah [0,0,2,7,0,0,47,127,255,511,511,2047,4095]) [.any [] [] (Aq [[6],[9],[21],[20,22],[8],[7],[25]]),.one,.one,.any [] [] (Aq [[28],[28]]),.one,.one] O5 ?_;refine rA ?_;refine aA (jmo (limbs d)) ?_;refine aV f ?_;refine aA (jmo (limbs 1)) ?_;refine aV g ?_;refine Ac k ?_;by_cases a:m=0
 ·exact kA1 a
 ·have:0<m:=O;exact kA2 a this
end Go.Va
namespace Go.Va
open Go.Proofs
theorem HP{p d r:Nat}{x y c:Nat}(h:x+65536*d=y+c+r):p*r+p*y+p*c=p*x+p*65536*d:=by
 have a:p*(x+65536*d)=p*(y+c+r):=by rw[h]
 rw[Nat.mul_add,Nat.mul_add,Nat.mul_add,<-Nat.mul_assoc]at a;omega
end Go.Va
namespace Go.Va
open _root_.List renaming length_cons → aD, map_append → aJ
open _root_.Nat renaming mod_lt → aG, eq_zero_or_pos → aH, mul_comm → aI, div_add_mod → aL, mul_zero → aM, add_zero → aN, add_comm → aO, gcd_comm → aP, zero_le → aR, gcd → aS
open Int renaming natCast_add → qA, natCast_mul → qB, natCast_emod → qC, natCast_ediv → qD, natCast_pow → qE
open Go.Proofs Go.Proofs.Tryz
theorem J8(a:List Nat)(i:Nat):val (a.take (i+1))=val (a.take i)+65536^i*a.getD i 0:=by
 by_cases h:i<a.length
 ·exact Dp h
 ·rw[Ba O,Ba O,AL,B9 O];simp
theorem Wa(b:List Nat)(n:Nat):val b=val (b.take n)+65536^n*val (b.drop n):=by
 by_cases h:n<=b.length
 ·conv=>lhs;rw[<-List.take_append_drop n b,CF,A8,Bs h]
 ·rw[Ba O,List.drop_eq_nil_of_le O,KN,aM,aN]
theorem No(a b:List Nat)(k:Ok a)(hl:a.length<=70368744177664)(l:Ok b)(hm:b.length<=70368744177664)(q:val b<=val a):
  CallsF prog 308 [.c (Ad a),.c (Ad b)] (.tup [.c (.d (Ad (limbs (val a - val b)))),.c (.d (.int .i64 0))]):=by
 have L:=Iq a b k O l O;have Y:=λo Q (t:o.length<=70368744177664)=>CM o Q t;have H: ¬cmp3 (val a) (val b)<0:=by
  unfold cmp3;rw[if_neg O];split<;>omega
 generalize P:cmp3 (val a) (val b)=cm at*;refine oB func308 ?_;refine aB1 H L ?_;refine CE [(6,37)] (λp:Nat×Nat×List Nat=>⟨[(0,vC (.d (Ad a))),(1,vC (.d (Ad b))),(8,vI .i64 p.1),(7,vI .i64 p.2.1),(6,vC (.sl 6 0 p.2.2.length))],[(6,.row 1 (p.2.2.map u16) true)]⟩)
  (λp=>Ok p.2.2/\p.2.2.length=p.1/\p.1<=a.length/\p.2.1<=1/\val (a.take p.1)+65536^p.1*p.2.1=val p.2.2+val (b.take p.1))
  (λp=>a.length - p.1) (0,0,[]) (by simp[AW,lk,St.le,vI,vC]) ⟨Ok.nil,rfl,aR _,aR _,by simp[val]⟩ ?_
 rintro⟨i,c,o⟩ ⟨g,h,M,N,j⟩;simp only at g h M N j;by_cases hi:i<a.length
 ·have J:=En a k i O;have K:=En b l i O;have F:=J8 a i;have G:=J8 b i;have xa:=H5 k i;have xb:=H5 l i;generalize a.getD i 0=x at*;generalize b.getD i 0=y at*;have f: ∀d r,x+65536*d=y+c+r->r<65536->Ok (o++[r])/\(o++[r]).length=i+1/\val (a.take (i+1))+65536^(i+1)*d=val (o++[r])+val (b.take (i+1)):=λd r S v=>by
   have hS:=HP (p:=65536^i) S;refine⟨g.app (Ok.nil.cons v),by simp[h],?_⟩;rw[Ks,h,F,G,Nat.pow_succ];omega
  clear j F G q H L;by_cases I:(x:Int) - (y:Nat) - (c:Nat)<0
  ·have e:(x:Int) - (y:Nat) - (c:Nat)+65536=((x+65536 - y - c:Nat):Int):=O;obtain⟨w,z,E⟩:=f 1 (x+65536 - y - c) O O;clear f;simp -implicitDefEqProofs[jJ,-qA,-qB,-qC,-qD,-qE,hi];refine aB J ?_;refine aB1 I K ?_;exact⟨O,O,O,⟨O,O⟩,O,i+1,1,o++[x+65536 - y - c],⟨⟨rfl,rfl,O1⟩,by rw[aJ,e,DV _ O];rfl⟩,⟨w,z,O,O,E⟩,O⟩
  ·have e:(x:Int) - (y:Nat) - (c:Nat)=((x - y - c:Nat):Int):=O;obtain⟨w,z,E⟩:=f 0 (x - y - c) O O;clear f;simp -implicitDefEqProofs[jJ,-qA,-qB,-qC,-qD,-qE,hi];refine aB J ?_;refine aB1 I K ?_;exact⟨O,O,⟨O,O⟩,O,i+1,0,o++[x - y - c],⟨⟨rfl,rfl,O1⟩,by rw[aJ,e,DV _ O];rfl⟩,⟨w,z,O,O,E⟩,O⟩
 ·have m:i=a.length:=O;have W:val o=val a - val b:=by
   rw[Ba O]at j;have T:=Wa b i;have lo:=Bz o g;have Z:=Bz a k;rw[h]at lo;rw[<-m]at Z;have X:val (b.drop i)=0:=by
    rcases aH (val (b.drop i))with h0|h0
    ·exact h0
    ·have:=Nat.mul_le_mul_left (65536^i) h0;omega
   rw[X,aM,aN]at T;rcases aH c with h0|h0
   ·subst h0;omega
   ·obtain rfl:c=1:=O;omega
  clear j;simp -implicitDefEqProofs[jJ,-qA,-qB,-qC,-qD,-qE,hi];refine Ac (Y o g O) ?_;simp -implicitDefEqProofs[jJ,-qA,-qB,-qC,-qD,-qE,W]
theorem cmp3_le{a b:Nat}:cmp3 a b<=0↔a<=b:=by
 unfold cmp3;split
 ·omega
 ·split<;>omega
theorem jci(r b:List Nat)(G:Ok r)(M:r.length<=70368744177600)(w:Ok b)(L:b.length<=70368744177600)(K:val b≠0)(a:val r<65536*val b):
  CallsF prog 307 [.c (Ad r),.c (Ad b)] (.u (.c (.d (.int .u64 (val r/val b:Nat))))):=by
 have kO:=λ(m:Nat) (h:m<65536)=>C6 m O;have j:=λ(m:Nat) (h:m<65536)=>LR b (limbs m) w (Aw m) (by have:=IK (n:=m) O;omega);have i:=λ(m:Nat) (h:m<65536)=>Iq (limbs (val b*m)) r (Aw _) (by
  have:=Cp b (limbs m) w (Aw m);rw[Az]at this;have:=IK (n:=m) O;omega) G O
 simp only[Az]at j i;have I:=λ(m:Nat) (o:val b*m<=val r) (l:val r<val b*(m+1))=>Nat.div_eq_of_lt_le (k:=m) (by rw[aI];exact o) (by rw[aI];exact l);have y:val r<val b*(65535+1):=by rw[aI];exact a
 generalize val b=n at*;generalize val r=v at*;clear a G w;refine oB func307 ?_;refine AV (λp:Nat×Nat=>⟨[(0,vC (.d (Ad r))),(1,vC (.d (Ad b))),(5,vI .u64 p.1),(6,vI .u64 p.2)],[]⟩)
  (λp=>p.1<=p.2/\p.2<=65535/\n*p.1<=v/\v<n*(p.2+1)) (λp=>p.2 - p.1) (0,65535) (by simp[AW,lk,St.le,vI,vC]) ⟨O,O,O,y⟩ ?_
 rintro⟨lo,hi⟩ ⟨o,l,q,t⟩;simp only at o l q t;by_cases a:lo<hi
 ·have g:(lo+hi+1)/2<65536:=O;have kO:=kO _ g;have j:=j _ g;have i:=i _ g;have z:(lo+hi)%18446744073709551616=lo+hi:=O;have E:(lo+hi+1)%18446744073709551616=lo+hi+1:=O;have F:(lo+hi+1)/2%18446744073709551616=(lo+hi+1)/2:=O;have J:lo<(lo+hi+1)/2:=O;have H:(lo+hi+1)/2<=hi:=O;by_cases f:n*((lo+hi+1)/2)<=v
  ·have x:cmp3 (n*((lo+hi+1)/2)) v<=0:=cmp3_le.2 f;simp -implicitDefEqProofs[jJ,-qA,-qB,-qC,-qD,-qE,a,z,E,F];generalize (lo+hi+1)/2=e at*;refine aB kO ?_;refine aB j ?_;refine aB1 x i ?_;exact⟨e,hi,O1,⟨H,l,f,t⟩,O⟩
  ·have x: ¬cmp3 (n*((lo+hi+1)/2)) v<=0:=λh=>f (cmp3_le.1 h);simp -implicitDefEqProofs[jJ,-qA,-qB,-qC,-qD,-qE,a,z,E,F];generalize (lo+hi+1)/2=e at*;refine aB kO ?_;refine aB j ?_;refine aB1 x i ?_;exact⟨lo,e - 1,⟨rfl,O⟩,⟨O,O,q,by rw[show e - 1+1=e by omega];omega⟩,O⟩
 ·obtain rfl:lo=hi:=O;have:=I lo q t;refine rB ?_;exact this.symm
theorem jkI{n W x:Nat}(j:n≠0)(h:W<n)(k:x<65536)(V:Nat)(b:V%n=W):
  x+65536*W<65536*n/\(x+65536*W)/n<65536/\(x+65536*V)/n=(x+65536*W)/n+65536*(V/n)/\(x+65536*V)%n=(x+65536*W) - n*((x+65536*W)/n)/\n*((x+65536*W)/n)<=x+65536*W/\(x+65536*W) - n*((x+65536*W)/n)<n:=by
 have a:x+65536*W<65536*n:=O;have f:=aL V n;rw[b]at f;have e:x+65536*V=(x+65536*W)+n*(65536*(V/n)):=by
  have:n*(65536*(V/n))=65536*(n*(V/n)):=by rw[Nat.mul_left_comm]
  omega
 have g:=aL (x+65536*W) n;have i:=aG (x+65536*W) (show n>0 by omega);refine⟨a,Nat.div_lt_of_lt_mul O,?_,?_,O,O⟩
 ·rw[e,Nat.add_mul_div_left _ _ O]
 ·rw[e,Nat.add_mul_mod_self_left];omega
theorem ID(a b:List Nat)(K:Ok a)(hl:a.length<=70368744177000)(L:Ok b)(hm:b.length<=70368744177000)(H:val b≠0):
  CallsF prog 210 [.c (Ad a),.c (Ad b)] (.tup [.c (.d (Ad (limbs (val a/val b)))),.c (.d (Ad (limbs (val a%val b)))),.c (.d (.int .i64 0))]):=by
 by_cases N:val a<18446744073709551616/\val b<18446744073709551616
 ·exact jac a b K O L O N.1 N.2 H
 have n1:=CM a K O;have n2:=CM b L O;have la:=Bu a K;have lb:=Bu b L;generalize val a=m at*;generalize val b=n at*;have z:limbs n≠[]:=λh=>H (limbs_nil.1 h);have hx1:(limbs m).length<=70368744177000:=O;have hy1:(limbs n).length<=70368744177000:=O;have ox:=Aw m;have F:=Az m;have Z: ¬((limbs m).length<=4/\(limbs n).length<=4):=λh=>N ⟨(GE m).1 h.1,(GE n).1 h.2⟩;have kn:=λo ho (hol:o.length<=70368744177664)=>CM o ho hol;have kd:=λr (T:(limbs r).length<=70368744177600) (I:r<65536*n)=>jci (limbs r) (limbs n) (Aw r) T (Aw n) O (by rw[Az];exact H) (by rw[Az,Az];exact I);have kO:=λ(d:Nat) (h:d<65536)=>C6 d O;have kM:=λ(d:Nat) (h:d<65536)=>LR (limbs n) (limbs d) (Aw n) (Aw d) (by have:=IK (n:=d) O;omega);have kS:=λ(r d:Nat) (T:(limbs r).length<=70368744177664) (h:d<65536) (I:n*d<=r)=>No (limbs r) (limbs (n*d)) (Aw r) T (Aw _) (by have:=CG I;omega) (by rw[Az,Az];exact I);simp only[Az]at kd kM kS;clear K L hl hm la lb N;generalize limbs m=x at*;have fin: ∀q:List Nat,Ok q->val q=val x/n->limbs (val q)=limbs (m/n):=λq _ h=>by rw[h,F]
 have finW:val x%n=m%n:=by rw[F]
 refine oB func210 ?_;refine aB n1 ?_;refine Ac n2 ?_;have t: ∀i (h:i<x.length) (W:Nat),val (x.drop (i+1))%n=W->_:=λi h W J=>jkI H (J ▸ aG _ O) (ox.get (AD h)) (val (x.drop (i+1))) J;have l: ∀i (h:i<x.length),val (x.drop i)=x[i]+65536*val (x.drop (i+1)):=λi h=>by rw[BQ h];rfl
 have y: ∀W,W<n->(limbs W).length<=(limbs n).length:=λW h=>CG O;have h4:x.length<=4/\ ¬(limbs n).length<=4\/ ¬x.length<=4:=O;rcases h4 with⟨h4,h5⟩|h4
 case' inl=>
  simp -implicitDefEqProofs[jJ,-qA,-qB,-qC,-qD,-qE,z,h4,h5];refine⟨⟨O,O⟩,?_⟩
 case' inr=>
  refine rB2 z h4 ?_;refine⟨⟨O,O⟩,?_⟩
 all_goals
  refine CE [(7,60)] (λp:Nat×Option (List Nat)=>match p.2 with
   |none=>⟨[(0,vC (.d (Ad x))),(1,vC (.d (Ad (limbs n)))),(9,vI .i64 ((p.1:Int) - 1)),(7,vC (.sl 7 0 0)),(8,vC (.sl 8 0 0))],[(7,.row 1 [] true),(8,.row 1 [] true)]⟩
   |some q=>⟨[(0,vC (.d (Ad x))),(1,vC (.d (Ad (limbs n)))),(9,vI .i64 ((p.1:Int) - 1)),(7,vC (.sl 7 0 q.length)),(8,vC (.d (Ad (limbs (val (x.drop p.1)%n)))))],[(7,.row 1 (q.map u16) true)]⟩)
   (λp=>p.1<=x.length/\match p.2 with|none=>p.1=x.length|some q=>Ok q/\val q=val (x.drop p.1)/n/\q.length+p.1=x.length) (λp=>p.1) (x.length,none)
   (by simp[AW,lk,St.le,vI,vC]) ⟨AO _,rfl⟩ ?_
  rintro⟨i,o⟩ ⟨g1,f⟩;simp only at g1;rcases i with _|i
  ·rcases o with _|q
   ·simp only at f;have hx0:x=[]:=jzv.1 f.symm;have hm0:m=0:=by rw[<-F,hx0];rfl
    refine rB ?_;refine Ac (kn [] Ok.nil O1) ?_;simp -implicitDefEqProofs[jJ,-qA,-qB,-qC,-qD,-qE,hm0,KN];rfl
   ·simp only at f;obtain⟨f,G,g4⟩:=f;rw[List.drop_zero,F]at G;refine rB1 F ?_;refine Ac (kn q f O) ?_;simp -implicitDefEqProofs[jJ,-qA,-qB,-qC,-qD,-qE,G]
  ·have hi:i<x.length:=g1;obtain⟨Q,j,v,w,s5,s6⟩:=t i hi _ rfl;have M:=l i hi;obtain⟨k,g⟩:=EI (a:=x) (n:=i) hi;have hxe:x[i]=k:=by
    rw[AD hi]at g;exact Bi g
   rw[hxe]at Q j v w s5 s6 M;have E:=ox.get g;generalize X:val (x.drop (i+1))=V at*;have J:V%n<n:=aG _ O;rw[<-M]at v w;have y:=y _ J;have hlR:(limbs (k+65536*(V%n))).length<=70368744177001:=by
    have:=Bu (k::limbs (V%n)) ((Aw _).cons E);rw[val,Az]at this;simp only[aD]at this;omega
   have P:=kn (k::limbs (V%n)) ((Aw _).cons E) (by simp only[aD];omega);rw[val,Az]at P;have k2:=kd (k+65536*(V%n)) O Q;have k3:=kO _ j;have k4:=kM _ j;have k5:=kS _ _ O j s5;generalize k+65536*(V%n)=R at*;generalize hD:R/n=d at*;rcases o with _|q
   ·simp only at f;have Y:V=0:=by rw[<-X,f,List.drop_length];rfl
    subst Y;rw[Nat.zero_mod,Cm]at P;have S:val (x.drop i)%n=R - n*d:=w;have hq:Ok [d]:=Ok.nil.cons j;have hv:val [d]=val (x.drop i)/n:=by rw[v,Nat.zero_div];rfl
    have e:[d].length+i=x.length:=by simp;omega
    clear Q v w s6 M X;simp -implicitDefEqProofs[jJ,-qA,-qB,-qC,-qD,-qE,g,u16];refine⟨hi,?_⟩;refine aB P ?_;refine aB k2 ?_;refine aB k3 ?_;refine aB k4 ?_;refine Ac k5 ?_;simp -implicitDefEqProofs[jJ,-qA,-qB,-qC,-qD,-qE,AX j];exact⟨⟨O,O⟩,i,some [d],by simp[AW,lk,S,u16],⟨O,hq,hv,e⟩,O⟩
   ·obtain⟨f,G,g4⟩:=f;have S:val (x.drop i)%n=R - n*d:=w;have hq:Ok (d::q):=f.cons j;have hv:val (d::q)=val (x.drop i)/n:=by rw[v,<-G];rfl
    have e:(d::q).length+i=x.length:=by simp only[aD];simp only at g4;omega
    clear Q v w s6 M X;simp -implicitDefEqProofs[jJ,-qA,-qB,-qC,-qD,-qE,g,u16];refine⟨hi,⟨O,O⟩,.inl ⟨O,?_⟩⟩;have a1:D.slice (1+(limbs (V%n)).length) (List.take (1+(limbs (V%n)).length) (D.int IntKind.u16 k::List.map u16 (limbs (V%n))))=Ad (k::limbs (V%n)):=by
     rw[aO,Ba O1];rfl
    rw[a1];refine aB P ?_;refine aB k2 ?_;refine⟨by simp only[aD]at e;omega,?_⟩;refine aB k3 ?_;refine aB k4 ?_;refine Ac k5 ?_;simp -implicitDefEqProofs[jJ,-qA,-qB,-qC,-qD,-qE,AX j];exact⟨⟨O,O⟩,i,some (d::q),by simp[AW,lk,S,u16,aO],⟨O,hq,hv,e⟩,O⟩
theorem Ku(a b:List Nat)(g:Ok a)(l:a.length<=70368744177000)(h:Ok b)(o:b.length<=70368744177000):
  CallsF prog 209 [.c (Ad a),.c (Ad b)] (.u (.c (.d (Ad (limbs (aS (val a) (val b))))))):=by
 refine oB func209 ?_;refine aB (CM a g O) ?_;refine aB (CM b h O) ?_;have v:=Bu a g;have w:=Bu b h;have r:(limbs (val a)).length<=70368744177000:=O;have t:(limbs (val b)).length<=70368744177000:=O;clear l o g h v w;generalize val a=m at*;generalize val b=n at*;refine AV (λp:Nat×Nat=>⟨[(0,vC (.d (Ad (limbs p.1)))),(1,vC (.d (Ad (limbs p.2))))],[]⟩) (λp=>aS p.1 p.2=aS m n/\(limbs p.1).length<=70368744177000/\(limbs p.2).length<=70368744177000) (λp=>p.2) (m,n) O1 ⟨rfl,r,t⟩ ?_;rintro⟨x,y⟩ ⟨f,j,e⟩;simp only at f j e;by_cases k:y=0
 ·subst k;simp -implicitDefEqProofs[jJ,-qA,-qB,-qC,-qD,-qE,Cm];rw[<-f,Nat.gcd_zero_right]
 ·have q:0<(limbs y).length:=limbs_pos_len.2 O;have d:=ID (limbs x) (limbs y) (Aw _) j (Aw _) e (by rw[Az];exact k);rw[Az,Az]at d;have i:(limbs (x%y)).length<=70368744177000:=Nat.le_trans (CG (Nat.le_of_lt (aG _ O))) e;refine rB1 q ?_;refine aB d ?_;refine⟨y,x%y,⟨rfl,rfl⟩,⟨?_,e,i⟩,aG _ O⟩;rw[aP,<-Nat.gcd_rec,aP,f]
end Go.Va
