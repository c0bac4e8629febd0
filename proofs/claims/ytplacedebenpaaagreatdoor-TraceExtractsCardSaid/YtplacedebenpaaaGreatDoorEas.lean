/- a part of the proof -/
import Derived.Test.YtplacedebenpaaaGreatDoorEar
import Derived.Test.YtplacedebenpaaaGreatDoorRows
import Derived.ProofKit
import Derived.OpenShut
import Derived.Carry
import Derived.ChangeSlices
set_option linter.all false
set_option maxHeartbeats 4000000
set_option maxRecDepth 100000
namespace Go.Va
open _root_.List renaming drop_length → aD
open _root_.Nat renaming gcd → aG, one_mul → aH, mul_one → aI
open Int renaming natCast_add → qA, natCast_mul → qB
open Go.Proofs Go.Proofs.Tryz
variable{l y:List Int}{i:Nat}
theorem jcD(a:List Nat):CallsF prog 206 [.c (Ad a)] (.u (.agg [.d (.bool false),.d (Ad a)])):=by
 refine cO func206 rfl ?_;exact kA
theorem Ix(neg:Bool)(m d:Nat)(l:m<340282366920938463463374607431768211456)(hd:d<340282366920938463463374607431768211456)(j:d≠0)(k:aG m d=1):
  CallsF prog 127 [.agg [.bool neg,Ad (limbs m)],.c (Ad (limbs d))] (.u (.agg [.d (.bool (sg neg m)),.d (Ad (limbs m)),.d (Ad (limbs d))])):=by
 refine cO func127 rfl ?_;have p:=BP l;have o:=BP hd;have b:=CM (limbs d) (Aw _) O;have g:=Ku (limbs m) (limbs d) (Aw _) O (Aw _) O;have f:=ID (limbs m) (limbs 1) (Aw _) O (Aw _) O2 (by rw[Az];omega);have i:=ID (limbs d) (limbs 1) (Aw _) O (Aw _) O2 (by rw[Az];omega);have e:=IS neg (limbs m) (Aw _) O;rw[Az,Az,k]at g;rw[Az]at b e;rw[Az,Az,Nat.div_one,Nat.mod_one]at f i;have a:limbs d≠[]:=λh=>j (limbs_nil.1 h);refine rA ?_;refine aA1 a b ?_;refine aA g ?_;refine aA f ?_;refine aA i ?_;refine Ac e ?_;simp -implicitDefEqProofs[jJ,-qA,-qB,AU]
theorem jcT(neg:Bool)(m d:Nat)(e:m<340282366920938463463374607431768211456)(hd:d<340282366920938463463374607431768211456)(a:d≠0)(b:aG m d=1):
  CallsF prog 140 [.agg [.bool neg,Ad (limbs m),Ad (limbs d)]] (.u (.agg [.d (.bool (sg neg m)),.d (Ad (limbs m)),.d (Ad (limbs d))])):=by
 refine oA func140 ?_;refine Ac (Ix neg m d e hd a b) ?_;exact kA
theorem jhZ(neg:Bool)(m:Nat):sg (sg neg m) m=sg neg m:=by
 cases neg<;>simp[sg]
theorem jtU(neg:Bool)(m:Nat):Bg (sg neg m) m=Bg neg m:=by
 unfold sg Bg;split
 ·rfl
 ·rename_i h;have:0<m:=O;cases neg<;>simp[this]
theorem jjc(neg:Bool)(m d:Nat)(a:m<340282366920938463463374607431768211456)(hd:d<340282366920938463463374607431768211456)(e:d≠0)(f:aG m d=1):
  CallsF prog 76 [.agg [.bool neg,Ad (limbs m),Ad (limbs d)]] (.u (.c (.d (.int .i64 (Bg neg m))))):=by
 refine cO func76 rfl ?_;have g:=BP a;have b:=jqX (sg neg m) (limbs m) (Aw _) O;rw[Az,jtU]at b;refine rA ?_;refine aA (jcT neg m d a hd e f) ?_;refine Ac b ?_;exact kA
theorem jm7(a b:Bool)(m d n e:Nat)(g:m<340282366920938463463374607431768211456)(hd:d<340282366920938463463374607431768211456)(q:d≠0)(r:aG m d=1)(h:n<340282366920938463463374607431768211456)(f:e<340282366920938463463374607431768211456)(p:e≠0)(t:aG n e=1):
  CallsF prog 124 [.agg [.bool a,Ad (limbs m),Ad (limbs d)],.agg [.bool b,Ad (limbs n),Ad (limbs e)]] (.u (.c (.d (.int .i64 (Nk (LG a m*e) (LG b n*d)))))):=by
 refine cO func124 rfl ?_;have x:=BP g;have v:=BP hd;have y:=BP h;have w:=BP f;have l:=Cp (limbs m) (limbs e) (Aw _) (Aw _);have o:=Cp (limbs n) (limbs d) (Aw _) (Aw _);have i:=Z5 (sg a m) false (limbs m) (limbs e) (Aw _) O (Aw _) O O;have j:=Z5 (sg b n) false (limbs n) (limbs d) (Aw _) O (Aw _) O O;rw[Az,Az]at i j l o;have k:=jgf (sg (sg a m) (m*e)) (sg (sg b n) (n*d)) (limbs (m*e)) (limbs (n*d)) (Aw _) O (Aw _) O;rw[Az,Az,QP,QP,jcw,jcw,QP,QP]at k;refine rA ?_;refine AA (Ah [0,1,0,7,15,31]) [.any [] [] (Aq [[2],[5],[3]]),.one,.one,.one] O5 ?_;refine rA ?_;refine aA (jcT a m d g hd q r) ?_;refine aA (jcT b n e h f p t) ?_;refine AA (Ah [0,1,0,4,12,31,0,64,0,256,831,2047,4095,8191]) [.any [] [] (Aq [[2],[9],[3],[11],[12],[10,13],[3],[15],[2],[17],[18]]),.one,.one,.one] O5 ?_;refine rA ?_;refine aA (jcD (limbs e)) ?_;refine aV i ?_;refine aA (jcD (limbs d)) ?_;refine aV j ?_;refine Ac k ?_;exact kA
theorem jwP(a b:Bool)(m d n e:Nat)(l:m<340282366920938463463374607431768211456)(hd:d<340282366920938463463374607431768211456)(g:d≠0)(i:aG m d=1)(o:n<340282366920938463463374607431768211456)(h:e<340282366920938463463374607431768211456)(f:e≠0)(j:aG n e=1):
  CallsF prog 75 [.agg [.bool a,Ad (limbs m),Ad (limbs d)],.agg [.bool b,Ad (limbs n),Ad (limbs e)]] (.u (.c (.d (.bool (decide (LG a m*e=LG b n*d)))))):=by
 refine cO func75 rfl ?_;have k:=jm7 a b m d n e l hd g i o h f j;have e:=jmP (LG a m*e) (LG b n*d);refine rA ?_;refine Ac k ?_;exact kA1 e
theorem jcg(n:Nat)(a:n<9223372036854775808):CallsF prog 65 [.c (.int .i64 n)] (.u (.agg [.d (.bool false),.d (Ad (limbs n)),.d (Ad (limbs 1))])):=by
 refine oA func65 ?_;refine aV (joH n a) ?_;refine aA (C6 1 O) ?_;have k:=Ix (sg false n) n 1 O O O (Nat.gcd_one_right n);refine Ac k ?_;simp -implicitDefEqProofs[jJ,-qA,-qB,sg]
theorem jyN(b e:Bool)(m d:Nat)(f:m<340282366920938463463374607431768211456)(hd:d<340282366920938463463374607431768211456)(i:aG m d=1):
  CallsF prog 63 [.agg [.bool b,Ad (limbs m)],.agg [.bool e,Ad (limbs d)]]
   (if d=0 then .tup [.agg [.d (.bool false),.d (Ad []),.d (Ad [])],.c (.d (.int .i64 3))]
   else .tup [.agg [.d (.bool (sg (!decide (b=e)) m)),.d (Ad (limbs m)),.d (Ad (limbs d))],.c (.d (.int .i64 0))]):=by
 have k:=BP f;have j:=BP hd;have g:=jqX e (limbs d) (Aw _) O;have h:=jBY b (limbs m) (Aw _) O;rw[Az]at g h;by_cases a:d=0
 ·rw[if_pos a];refine oA func63 ?_;refine Ac g ?_;simp -implicitDefEqProofs[jJ,-qA,-qB,Zd,a];rfl
 ·rw[if_neg a];refine oA func63 ?_;refine Ac g ?_;cases e
  ·simp -implicitDefEqProofs[jJ,-qA,-qB,Zd,a];refine Ac (Ix b m d f hd a i) ?_;cases b<;>exact kA
  ·simp -implicitDefEqProofs[jJ,-qA,-qB,Zd,a];refine aV h ?_;refine Ac (Ix _ m d f hd a i) ?_;cases b<;>simp -implicitDefEqProofs[jJ,-qA,-qB,jhZ]
theorem jgj(neg:Bool)(m d:Nat)(a:m<340282366920938463463374607431768211456)(hd:d<340282366920938463463374607431768211456)(h:d≠0)(e:aG m d=1):
  CallsF prog 138 [.agg [.bool false,Ad (limbs 1),Ad (limbs 1)],.agg [.bool neg,Ad (limbs m),Ad (limbs d)]]
   (if m=0 then .tup [.agg [.d (.bool false),.d (Ad []),.d (Ad [])],.c (.d (.int .i64 3))]
   else .tup [.agg [.d (.bool neg),.d (Ad (limbs d)),.d (Ad (limbs m))],.c (.d (.int .i64 0))]):=by
 have p:=BP a;have o:=BP hd;have l:(limbs 1).length=1:=rfl;have f:=Z5 (sg false 1) false (limbs 1) (limbs d) (Aw _) O (Aw _) O (by rw[Az,Az,aH];omega);have g:=Z5 (sg neg m) false (limbs m) (limbs 1) (Aw _) O (Aw _) O (by rw[Az,Az,aI];omega);rw[Az,Az,aH]at f;rw[Az,Az,aI]at g;have k:=jyN (sg false d) (sg neg m) d m hd a (by rw[Nat.gcd_comm];exact e);have i:sg (!decide (sg false d=sg neg m)) d=(neg&&decide (0<m)):=by
  have:0<d:=O;cases neg<;>by_cases j:m=0<;>simp[sg,this,j]<;>omega
 rw[i]at k;refine oA func138 ?_;refine AA (Ah [0,1,0,7,15,31]) [.any [] [] (Aq [[2],[6],[3]]),.one,.one,.one] O5 ?_;refine rA ?_;refine aA (jcT false 1 1 O O O O2) ?_;refine aA (jcT neg m d a hd h e) ?_;refine AA (Ah [0,1,0,4,12,31,0,64,0,256,831,2047,4095,8191,8191,32767,65535]) [.any [] [] (Aq [[2],[10],[3],[12],[13],[11,14],[3],[16],[2],[18],[19]]),.one,.one,.any [] [] (Aq [[22],[22]]),.one,.one] O5 ?_;refine rA ?_;refine aA (jcD (limbs d)) ?_;refine aV f ?_;refine aA (jcD (limbs 1)) ?_;refine Ac g ?_;simp -implicitDefEqProofs[jJ,-qA,-qB,AU,jhZ];refine Ac k ?_;by_cases b:m=0
 ·exact kA1 b
 ·have:0<m:=O;exact kA2 b this
theorem juq{m n:Nat}(a:m<340282366920938463463374607431768211456)(b:n<340282366920938463463374607431768211456):aG m n<340282366920938463463374607431768211456:=by
 rcases Nat.eq_zero_or_pos n with h|h
 ·subst h;rw[Nat.gcd_zero_right];exact a
 ·exact Nat.lt_of_le_of_lt (Nat.gcd_le_right m h) b
theorem jum(neg:Bool)(a b:List Nat)(f:Ok a)(l:a.length<=8)(h:Ok b)(m:b.length<=8):
  CallsF prog 213 [.agg [.bool neg,Ad a,Ad b]] (.u (.c (.d (.bool (CV neg a b))))):=by
 refine cO func213 rfl ?_;have k:=jjE neg a O;have v:=Zb b O;have g:=Ku a b f O h O;have s:=jhw (limbs (aG (val a) (val b))) (limbs 1) (by have:=BP (juq (jak f l) (jak h m));omega);unfold CV;cases i:(Nr a&& !(neg&&decide (a=[])))
 ·rw[i]at k;refine rA ?_;refine Ac k ?_;exact kA
 ·rw[i]at k;refine rA ?_;refine aA k ?_;refine Ac v ?_;cases o:Nr b
  ·exact kA
  ·refine rA ?_;refine aA g ?_;refine aA (C6 1 O) ?_;refine aA s ?_;simp only[Ea,Hx];refine⟨λe=> ?_,λe _ j=>e j⟩;cases b<;>simp[e]
theorem jqj[DrC](a:Int):CallsF prog 116 [.c (.int .i64 a)] (.u (.c (.d (.bool false)))):=by
 refine cO func116 rfl ?_;exact kA
theorem jbL[DrC](a b:Int):CallsF prog 57 [.c (.int .i64 a),.c (.int .i64 b)] (.u (.c (.d (.int .i64 (Nk a b))))):=by
 refine oA func57 ?_;refine aA (jqj a) ?_;refine aA (jqj b) ?_;unfold Nk;refine⟨λh=>by rw[if_pos h],λh=>⟨λe=>by rw[if_neg O,if_pos e],λe=>by rw[if_neg O,if_neg O]⟩⟩
def It:List Int->Int
 |[]=>0
 |a::l=>if a=0 then It l else a
theorem jAz(h:i<l.length):It (l.drop i)=if l[i]=0 then It (l.drop (i+1)) else l[i]:=by
 rw[BQ h];rfl
theorem jc4[DrC](l:List Int)(g:l.length<=1099511627776):CallsF prog 56 [.c (AT l)] (.u (.c (.d (.int .i64 (It l))))):=by
 refine oA func56 ?_;refine AV (λi:Nat=>⟨[(8,vI .i64 i),(7,vI .i64 l.length),(6,vC (.d (AT l))),(3,vI .i64 0)],[]⟩) (λi=>i<=l.length/\It (l.drop i)=It l) (λi=>l.length - i) 0 O1 ⟨O,rfl⟩ ?_;rintro i ⟨f,b⟩;by_cases h:i<l.length
 ·have e:=jAz h;by_cases a:l[i]=0
  ·rw[a]at e;refine rD2 h a ?_;rw[if_pos rfl]at e;exact⟨O,⟨O,by rw[<-e,b]⟩,O⟩
  ·refine rD2 h a ?_;rw[<-b,e,if_neg a]
 ·have:i=l.length:=O;subst this;refine rA ?_;rw[aD]at b;exact b
def D1:List Int->List Int->Int
 |[],[]=>0
 |[],_::_=> -1
 |_::_,[]=>1
 |a::x,b::y=>if Nk a b=0 then D1 x y else Nk a b
theorem jq6(y:List Int):D1 [] y=if 0<y.length then -1 else 0:=by cases y<;>simp[D1]
theorem jte{x:List Int}(h:i<x.length)(a:i<y.length):D1 (x.drop i) (y.drop i)=if Nk x[i] y[i]=0 then D1 (x.drop (i+1)) (y.drop (i+1)) else Nk x[i] y[i]:=by
 rw[BQ h,BQ a];rfl
theorem jBZ{x:List Int}(h:i<x.length)(a:i=y.length):D1 (x.drop i) (y.drop i)=1:=by
 subst a;rw[BQ h,aD];rfl
theorem jjh[DrC](x y:List Int)(m:x.length<=1099511627776)(o:y.length<=1099511627776):CallsF prog 58 [.c (AT x),.c (AT y)] (.u (.c (.d (.int .i64 (D1 x y))))):=by
 refine oA func58 ?_;refine AV (λi:Nat=>⟨[(11,vI .i64 i),(10,vI .i64 x.length),(9,vC (.d (AT x))),(0,vC (.d (AT x))),(1,vC (.d (AT y)))],[]⟩) (λi=>i<=x.length/\i<=y.length/\D1 (x.drop i) (y.drop i)=D1 x y) (λi=>x.length - i) 0 O1 ⟨O,O,rfl⟩ ?_;rintro i ⟨k,l,a⟩;by_cases h:i<x.length
 ·by_cases b:i<y.length
  ·have e:=jte h b;have g: ¬y.length<=i:=O;refine rD3 h b g ?_;refine Ac (jbL x[i] y[i]) ?_;by_cases f:Nk x[i] y[i]=0
   ·rw[if_pos f]at e;refine rA1 f ?_;exact⟨O,⟨O,O,by rw[<-e,a]⟩,O⟩
   ·rw[if_neg f]at e;refine rA1 f ?_;rw[<-a,e]
  ·have e:i=y.length:=O;have j:=jBZ h e;rw[a]at j;have g:y.length<=i:=O;refine rD2 h g ?_;rw[j]
 ·have:i=x.length:=O;subst this;rw[aD,jq6,List.length_drop]at a;rw[<-a];by_cases b:x.length<y.length
  ·rw[if_pos O];exact kA1 b
  ·rw[if_neg O];exact kA1 b
def Xw:List Int->Int->Nat->Int
 |[],_,_=> -1
 |a::l,v,i=>if v=a then i else Xw l v (i+1)
theorem jnW: ∀(l:List Int) (v:Int) (i:Nat),0<=Xw l v i↔v∈l
 |[],v,i=>by simp[Xw]
 |a::l,v,i=>by
  unfold Xw;by_cases h:v=a
  ·rw[if_pos h];simp[h]
  ·rw[if_neg h,jnW l v (i+1)];simp[h]
theorem jts{v:Int}(h:i<l.length):Xw (l.drop i) v i=if v=l[i] then (i:Int) else Xw (l.drop (i+1)) v (i+1):=by
 rw[BQ h];rfl
theorem jvF[DrC](l:List Int)(v:Int)(g:l.length<=1099511627776):CallsF prog 350 [.c (AT l),.c (.int .i64 v)] (.u (.c (.d (.int .i64 (Xw l v 0))))):=by
 refine oA func350 ?_;refine AV (λi:Nat=>⟨[(8,vI .i64 i),(7,vI .i64 l.length),(6,vC (.d (AT l))),(0,vC (.d (AT l))),(1,vI .i64 v)],[]⟩) (λi=>i<=l.length/\Xw (l.drop i) v i=Xw l v 0) (λi=>l.length - i) 0 O1 ⟨O,rfl⟩ ?_;rintro i ⟨f,b⟩;by_cases h:i<l.length
 ·have e:=jts (v:=v) h;by_cases a:v=l[i]
  ·rw[if_pos a]at e;simp -implicitDefEqProofs[jJ,-qA,-qB,h,<-a,i64];rw[<-b,e]
  ·rw[if_neg a]at e;refine rD2 h a ?_;exact⟨O,⟨O,by rw[<-e,b]⟩,O⟩
 ·have:i=l.length:=O;subst this;rw[aD]at b;refine rA ?_;exact b
theorem jvI[DrC](l:List Int)(v:Int)(a:l.length<=1099511627776):CallsF prog 280 [.c (AT l),.c (.int .i64 v)] (.u (.c (.d (.bool (decide (v∈l)))))):=by
 refine cO func280 rfl ?_;have e:=jnW l v 0;have k:=jvF l v a;refine rA ?_;refine Ac k ?_;exact kA1 e
theorem jyq{α:Type}{T:AH}{t:TypeId}{i:TI}(a:T t=some i)(j:i.zero=[.nl])(b:i.agg=false)(e:α->D){l:List α}(f:l≠[]):binV T .eql t (.u (.c (.d (EC e l)))) (.u (.c .nl))=some (vB false):=by
 have g:l.length≠0:=λh=>f (jzv.1 h);show(T t).bind _=_;rw[a];simp only[Option.bind_some];have:EJ i (.u (.c (.d (EC e l)))) (.u (.c .nl))=some false:=by
  unfold EJ EC;simp only[j,b];rw[if_neg O1,if_neg g]
 rw[this];rfl
theorem jlM[DrC](l:List Int)(b:l.length<=1099511627776)(a:l≠[]):CallsF prog 264 [.c (AT l)] (.u (.c (.own 1 l.length (l.map i64)))):=by
 refine cO func264 rfl ?_;have:l.length≠0:=λh=>a (jzv.1 h);have e:=jyq (T:=tb) (t:=26) rfl rfl rfl i64 a;refine rA1 e ?_;exact⟨O,O⟩
structure Fct where
 kind:Int
 args:List Int
 neg:Bool
 abs:List Nat
 den:List Nat
 deriving DecidableEq
@[simp]def Fct.ds(f:Fct):List D:=[.int .i64 f.kind,AT f.args,.bool f.neg,Ad f.abs,Ad f.den]
def arity(k:Int):Nat:=if k=1\/k=5 then 3 else if k=2\/k=3\/k=4\/k=6\/k=9 then 4 else if k=7 then 8 else if k=8 then 2 else 0
theorem XI(k:Int):CallsF prog 216 [.c (.int .i64 k)] (.u (.c (.d (.int .i64 (arity k))))):=by
 refine cO func216 rfl ?_;by_cases a:k=1
 ·subst a;exact kJ
 by_cases b:k=2
 ·subst b;exact kJ
 by_cases e:k=3
 ·subst e;exact kJ
 by_cases f:k=4
 ·subst f;exact kJ
 by_cases g:k=5
 ·subst g;exact kJ
 by_cases h:k=6
 ·subst h;exact kJ
 by_cases i:k=7
 ·subst i;exact kJ
 by_cases j:k=8
 ·subst j;exact kJ
 by_cases l:k=9
 ·subst l;exact kJ
 simp -implicitDefEqProofs[jJ,-qA,-qB,arity,a,b,e,f,g,h,i,j,l]
theorem jj5(k:Int):CallsF prog 157 [.c (.int .i64 k)] (.u (.c (.d (.int .i64 (arity k))))):=by
 refine cO func157 rfl ?_;by_cases a:k=1
 ·subst a;exact kJ
 by_cases b:k=2
 ·subst b;exact kJ
 by_cases e:k=3
 ·subst e;exact kJ
 by_cases f:k=4
 ·subst f;exact kJ
 by_cases g:k=5
 ·subst g;exact kJ
 by_cases h:k=6
 ·subst h;exact kJ
 by_cases i:k=7
 ·subst i;exact kJ
 by_cases j:k=8
 ·subst j;exact kJ
 by_cases l:k=9
 ·subst l;exact kJ
 simp -implicitDefEqProofs[jJ,-qA,-qB,arity,a,b,e,f,g,h,i,j,l]
def DP(neg:Bool)(a b:List Nat):Bool:= !neg&&decide (a=[])&&decide (b=[])
theorem Y8(neg:Bool)(a b:List Nat):CallsF prog 159 [.agg [.bool neg,Ad a,Ad b]] (.u (.c (.d (.bool (DP neg a b))))):=by
 refine cO func159 rfl ?_;cases neg<;>cases a<;>cases b<;>simp -implicitDefEqProofs[jJ,-qA,-qB,DP]
theorem jit(neg:Bool)(a b:List Nat):CallsF prog 217 [.agg [.bool neg,Ad a,Ad b]] (.u (.c (.d (.bool (DP neg a b))))):=by
 refine cO func217 rfl ?_;cases neg<;>cases a<;>cases b<;>simp -implicitDefEqProofs[jJ,-qA,-qB,DP]
def A6(f:Fct)(n:Int):Int:=
 if arity f.kind=0 then 8 else if f.args.length≠arity f.kind then 1 else if f.args.any (λa=>decide (a<0)||decide (n<=a)) then 2
 else if (if f.kind=9 then CV f.neg f.abs f.den else DP f.neg f.abs f.den) then 0 else 1
structure Fct.Mild (f:Fct):Prop where
 la:f.abs.length<=8
 ld:f.den.length<=8
 oa:Ok f.abs
 od:Ok f.den
 ln:f.args.length<=1099511627776
structure Fct.Wide (f:Fct):Prop where
 la:f.abs.length<=300
 ld:f.den.length<=300
 oa:Ok f.abs
 od:Ok f.den
 ln:f.args.length<=1099511627776
theorem Fct.Mild.wide{f:Fct}(h:f.Mild):f.Wide:=⟨by have:=h.la;omega,by have:=h.ld;omega,h.oa,h.od,h.ln⟩
theorem Lq{p:Int->Bool}(h:i<l.length):(l.drop i).any p=(p l[i]||(l.drop (i+1)).any p):=by
 rw[BQ h,List.any_cons]
theorem jlL(f:Fct)(G:f.Wide)(n:Int):CallsF prog 91 [.agg f.ds,.c (.int .i64 n)] (.u (.c (.d (.int .i64 (A6 f n))))):=by
 refine cO func91 rfl ?_;obtain⟨b,args,k,g,j⟩:=f;obtain⟨J,K,E,F,L⟩:=G;simp only at J K E F L;simp only[Fct.ds,A6];refine rA ?_;refine Ac (jj5 b) ?_;generalize arity b=o at*;by_cases t:o=0
 ·exact kA1 t
 by_cases y:args.length=o
 ·refine rA2 t y ?_;refine AV (λi:Nat=>⟨[(21,vI .i64 i),(20,vI .i64 (o:Nat)),(19,vC (.d (AT args))),(2,vC (.ptr 2 0)),(1,vI .i64 n)],[(2,.box [.d (.int .i64 b),.d (AT args),.d (.bool k),.d (Ad g),.d (Ad j)])]⟩) (λi=>i<=args.length/\(args.drop i).any (λa=>decide (a<0)||decide (n<=a))=args.any (λa=>decide (a<0)||decide (n<=a))) (λi=>args.length - i) 0 O1 ⟨O,rfl⟩ ?_;rintro i ⟨M,l⟩;by_cases h:i<args.length
  ·have e:=Lq (p:=λa=>decide (a<0)||decide (n<=a)) h;have m:i<o:=O;rw[e]at l;by_cases r:args[i]<0
   ·refine rD3 h m r ?_;intro w;have:=w _ (AZ h);omega
   ·by_cases v:n<=args[i]
    ·simp -implicitDefEqProofs[jJ,-qA,-qB,h,m,r,v,i64];intro w;have:=w _ (AZ h);omega
    ·simp -implicitDefEqProofs[jJ,-qA,-qB,h,m,r,v,i64];simp only[decide_eq_false r,decide_eq_false v,Bool.false_or]at l;exact⟨O,⟨O,l⟩,O⟩
  ·have m: ¬i<o:=O;have e:i=args.length:=O;rw[e,aD]at l;have q: ∀x∈args,0<=x/\x<n:=by simpa using l.symm
   rw[<-l];have H:=PB k g j E O F O;have I:=Y8 k g j;by_cases z:b=9
   ·refine rA2 m z ?_;refine Ac H ?_;cases CV k g j<;>refine rA ?_<;>exact q
   ·refine rA2 m z ?_;refine Ac I ?_;cases DP k g j<;>refine rA ?_<;>exact q
 ·exact kA2 t y
theorem jAa(f:Fct)(a:f.Mild)(n:Int):CallsF prog 91 [.agg f.ds,.c (.int .i64 n)] (.u (.c (.d (.int .i64 (A6 f n))))):=jlL f a.wide n
theorem jBl(f:Fct)(G:f.Mild)(n:Int):CallsF prog 132 [.agg f.ds,.c (.int .i64 n)] (.u (.c (.d (.int .i64 (A6 f n))))):=by
 refine cO func132 rfl ?_;obtain⟨b,args,k,g,j⟩:=f;obtain⟨K,L,E,F,M⟩:=G;simp only at K L E F M;simp only[Fct.ds,A6];refine rA ?_;refine Ac (XI b) ?_;have J:=XI b;generalize arity b=o at*;by_cases w:o=0
 ·exact kA1 w
 refine rA1 w ?_;refine AA (Ah [0,1,3,0,8,24,63]) [.any [] [] (Aq [[2],[11],[12],[2],[14],[15]]),.one] O5 ?_;refine rA ?_;refine Ae J ?_;by_cases y:args.length=o
 ·refine rA1 y ?_;refine AV (λi:Nat=>⟨[(21,vI .i64 i),(20,vI .i64 (o:Nat)),(19,vC (.d (AT args))),(2,vC (.ptr 2 0)),(1,vI .i64 n)],[(2,.box [.d (.int .i64 b),.d (AT args),.d (.bool k),.d (Ad g),.d (Ad j)])]⟩) (λi=>i<=args.length/\(args.drop i).any (λa=>decide (a<0)||decide (n<=a))=args.any (λa=>decide (a<0)||decide (n<=a))) (λi=>args.length - i) 0 O1 ⟨O,rfl⟩ ?_;rintro i ⟨N,l⟩;by_cases h:i<args.length
  ·have e:=Lq (p:=λa=>decide (a<0)||decide (n<=a)) h;have m:i<o:=O;rw[e]at l;by_cases r:args[i]<0
   ·refine rD3 h m r ?_;intro v;have:=v _ (AZ h);omega
   ·by_cases t:n<=args[i]
    ·simp -implicitDefEqProofs[jJ,-qA,-qB,h,m,r,t,i64];intro v;have:=v _ (AZ h);omega
    ·simp -implicitDefEqProofs[jJ,-qA,-qB,h,m,r,t,i64];simp only[decide_eq_false r,decide_eq_false t,Bool.false_or]at l;exact⟨O,⟨O,l⟩,O⟩
  ·have m: ¬i<o:=O;have e:i=args.length:=O;rw[e,aD]at l;have q: ∀x∈args,0<=x/\x<n:=by simpa using l.symm
   rw[<-l];have H:=jum k g j E O F O;have I:=jit k g j;by_cases z:b=9
   ·refine rA2 m z ?_;refine Ac H ?_;cases CV k g j<;>refine rA ?_<;>exact q
   ·refine rA2 m z ?_;refine Ac I ?_;cases DP k g j<;>refine rA ?_<;>exact q
 ·exact kA1 y
end Go.Va
namespace Go.Va
open _root_.List renaming getElem_cons_zero → aD, getElem_cons_succ → aG, getElem_toArray → aH, take_succ_cons → aI, drop_succ_cons → aJ, drop_zero → aL, take_zero → aM, mem_of_mem_take → aN
open Go.Proofs Go.ChangeShapes Go.WideShapes Go.ChangeAt Go.RowKit
section
variable {H:Type} {enc:TypeId×Value->H} {w:World} {base:Nat} {sp:Nat->Bool} {hd:Bool}
abbrev Z0:Addr->Prop:=λ_=>False
theorem jm6{e:D->Prop}{a:Addr}{f cap:Nat}{p:List Int}{k:IntKind}(z:f<=cap)(E:cap<=maxLen)(I:f<=p.length)(t: ∀i,i<p.length->w.cell? (a.add i)=some (.int k (p.getD i 0))):
  RepD w Z0 (.slice f ((p.take f).map (D.int k))) (.slice (some a) f cap):=by
 have m: ∀(j:Nat) (x:D),((p.take f).map (D.int k))[j]? =some x->j<f/\x= .int k (p.getD j 0):=λj x g=>by
  rw[Bf,List.getElem?_take]at g;by_cases h:j<f
  ·rw[if_pos h,AD O]at g;refine⟨h,?_⟩;rw[AL,AD O];exact(Bi g).symm
  ·rw[if_neg h]at g;cases g
 have l:0<f->a.spot=none:=λh=>by
  have:=t 0 O;unfold Addr.add at this;rw[if_pos rfl]at this;unfold World.cell? at this;split at this
  ·split at this
   ·cases this
   ·rename_i F;simpa using F
  ·cases this
 refine .slice f _ a cap (λj=> .int k (p.getD j 0)) (λq=> ?_) z E (λj x g=> ?_) (λj x g h=>h) (λj x g=> ?_)
 ·obtain⟨x,G⟩:=List.exists_mem_of_ne_nil _ q;obtain⟨j,g⟩:=List.getElem?_of_mem G;have:=(m j x g).1;exact l O
 ·have H:=m j x g;have y:=t j O;have r:=l O;have:a.add j=⟨a.block,a.off+j,none⟩:=by
   unfold Addr.add;split
   ·rename_i v;subst v;obtain⟨b,o,s⟩:=a;simp only at r;subst r;rfl
   ·rfl
  rw[<-this];exact y
 ·rw[(m j x g).2];exact .int _ _
theorem jnl{f:Nat}{cs:List Value}{x:DataW H×List MemPlace}(h:DataW.trod enc Tryz.prog w base sp hd f 26 cs=some x): ∃(l:List Int) (v:Value),cs=[v]/\RepD w Z0 (AT l) v:=by
 rcases open_ints (k:= .i64) Tryz.underlying26 Tryz.underlying3 O4 h with⟨rfl,_⟩|⟨a,b,cap,g,rfl,_,j,m,o,_,p,_⟩
 ·exact⟨[],_,rfl,.snil⟩
 ·have i:b<=g.length:=by rw[o];split<;>omega
  refine⟨g.take b,_,rfl,?_⟩;have:=jm6 (e:=λ_=>True) j m i p;have e:(AT (g.take b))= .slice b ((g.take b).map (D.int .i64)):=by
   show D.slice _ _=_;rw[A8,Bs i];rfl
  rw[e];exact this
theorem jh9{f:Nat}{cs:List Value}{x:DataW H×List MemPlace}(h:DataW.trod enc Tryz.prog w base sp hd f 28 cs=some x): ∃(l:List Nat) (v:Value),Ok l/\cs=[v]/\RepD w Z0 (Ad l) v:=by
 rcases open_ints (k:= .u16) Tryz.underlying28 (by kernel_rfl:Tryz.prog.underlying _=_) O4 h with⟨rfl,_⟩|⟨a,b,cap,i,rfl,_,o,p,q,_,r,t⟩
 ·exact⟨[],_,Ok.nil,rfl,.snil⟩
 ·have m:b<=i.length:=by rw[q];split<;>omega
  have j: ∀n∈i,0<=n/\n<65536:=λn g=>by
   have:=t n g;simp[Lit.wf,IntKind.min,IntKind.max,IntKind.signed,IntKind.bits]at this;omega
  refine⟨(i.take b).map Int.toNat,_,λy z=> ?_,rfl,?_⟩
  ·obtain⟨n,g,rfl⟩:=jzk.1 z;have:=j n (aN g);omega
  ·have:=jm6 (e:=λ_=>True) o p m r;have e:Ad ((i.take b).map Int.toNat)= .slice b ((i.take b).map (D.int .u16)):=by
    show D.slice _ _=_;rw[List.length_map,A8,Bs m,List.map_map];congr 1;refine List.map_congr_left λn g=> ?_;have:=j n (aN g);show D.int .u16 ((n.toNat:Nat):Int)=_;rw[Int.toNat_of_nonneg this.1]
   rw[e];exact this
structure InFact (f:Fct):Prop where
 oa:Ok f.abs
 od:Ok f.den
theorem jvK{v:Value}{d:DataW H}{p:List MemPlace}(h:DataW.Trod enc Tryz.prog w base sp hd 34 v d p): ∃f:Fct,InFact f/\A.rep w Z0 (.agg f.ds) v:=by
 obtain⟨W,h⟩:=h;obtain⟨xs,n,_,_,a,_,L⟩:=DataW.trod_struct Tryz.underlying34 h;have P:Tryz.prog.cellsOf 34=5:=O4;rw[P]at a;have M:Tryz.prog.cellsOf 3=1:=O4;have F:Tryz.prog.cellsOf 26=1:=O4;have I:Tryz.prog.cellsOf 32=3:=O4;have G:Tryz.prog.cellsOf 30=2:=O4;have m:Tryz.prog.cellsOf 28=1:=O4;have N:Tryz.prog.cellsOf 4=1:=O4;have hv: ∃q r t z E,v= .agg #[q,r,t,z,E]:=by
  cases v with
  |agg cs=>
   obtain⟨l⟩:=cs;have hl:l.length=5:=a
   match l,hl with
   |[q,r,t,z,E],_=>exact⟨q,r,t,z,E,rfl⟩
  |_=>simp[Value.cells]at a
 obtain⟨q,r,t,z,E,rfl⟩:=hv;have Q:(Value.agg #[q,r,t,z,E]).cells.toList=[q,r,t,z,E]:=rfl;rw[Q]at L;have some_of: ∀{α:Type} {o:Option α} {l:List α} {i:Nat},o=l[i]? ->i<l.length-> ∃y,o=some y:=λ{α o l i} h hi=>⟨l[i],by rw[h,AD hi]⟩
 have hx3:xs.length=3:=by assumption
 obtain⟨y0,X⟩:=some_of (L 0 _ rfl) O;obtain⟨y1,Y⟩:=some_of (L 1 _ rfl) O;obtain⟨y2,Z⟩:=some_of (L 2 _ rfl) O;simp only[M,F,I,aH,aD,aG,aL,aI,aM,aJ]at X Y Z;obtain⟨k,e0,_,_⟩:=DataW.trod_int Tryz.underlying3 X;obtain⟨l,u1,e1,r1⟩:=jnl Y;obtain⟨ys,n2,_,_,_,S,J⟩:=DataW.trod_struct Tryz.underlying32 Z;have hy2':ys.length=2:=S;obtain⟨z0,k0⟩:=some_of (J 0 _ rfl) O;obtain⟨z1,k1⟩:=some_of (J 1 _ rfl) O;simp only[G,m,aH,aD,aG,aL,aI,aM,aJ]at k0 k1;obtain⟨D4,u4,o4,e4,r4⟩:=jh9 k1;obtain⟨zs,n3,_,_,_,T,K⟩:=DataW.trod_struct Tryz.underlying30 k0;have hz2':zs.length=2:=T;obtain⟨q0,j0⟩:=some_of (K 0 _ rfl) O;obtain⟨q1,j1⟩:=some_of (K 1 _ rfl) O;simp only[N,m,aH,aD,aG,aL,aI,aM,aJ]at j0 j1;obtain⟨b,e2,_⟩:=DataW.trod_bool Tryz.underlying4 j0;obtain⟨D3,u3,o3,e3,r3⟩:=jh9 j1;cases e0;cases e1;cases e2;cases e3;cases e4;refine⟨⟨k,l,b,D3,D4⟩,⟨o3,o4⟩,[_,_,_,_,_],rfl,rfl,λj x u g e=> ?_⟩
 match j,g,e with
 |0,g,e=>cases g;cases e;exact .int _ _
 |1,g,e=>cases g;cases e;exact r1
 |2,g,e=>cases g;cases e;exact .bool _
 |3,g,e=>cases g;cases e;exact r3
 |4,g,e=>cases g;cases e;exact r4
theorem Tb{P:Program}(k:laidOutB P=true){W i:World}(j:Below W.heap.size W i): ∀{f:List TypeId} {vs:List Value} {ds:List (DataW H)} {e:List MemPlace},
  (∀t∈f,P.readableRec t=true/\t<P.types.size)->DataW.TrodAll enc P W 0 (λ_=>true) true f vs ds e->(∀x∈e,x.block<W.heap.size)->DataW.TrodAll enc P i 0 (λb=>decide (b<W.heap.size)) true f vs ds e
 |[],vs,ds,e,_,h,_=>by
  obtain⟨rfl,rfl,rfl⟩:=trodAll_nil h;rfl
 |t::f,vs,ds,e,l,h,a=>by
  obtain⟨v,z,d,m,p,q,rfl,rfl,rfl,r,w⟩:=trodAll_cons h;have:=l t O1;exact trodAll_cons_mk (Below.trod k this.1 this.2 r j (λx g=>a x (by simp[g]))) (Tb k j (λy o=>l y (by simp[o])) w (λx g=>a x (by simp[g])))
end
theorem WY:laidOutB Tryz.prog=true:=O4
theorem jbF:ownKnob Tryz.prog.godebug=none:=O4
end Go.Va
