/- a part of the proof -/
import Derived.Test.YtplacedebenpaaaGreatDoorEat
import Derived.Test.YtplacedebenpaaaGreatDoorEay
import Derived.Test.YtplacedebenpaaaGreatDoorEax
set_option linter.all false
set_option maxHeartbeats 4000000
set_option maxRecDepth 10000
namespace Go.Va
open _root_.List renaming flatMap_cons → aD, flatMap_nil → aG, append_nil → aH, cons_append → aI, nil_append → aJ, length_cons → aL, length_nil → aM
open Int renaming natCast_add → qA, natCast_mul → qB
open List renaming reduceReplicate → qF
open Go.Proofs Go.Proofs.Tryz
def jou:List (List Nat):=(Ah [0,0,2,6,0,16,48,126,255,511])
@[simp]def jqS:List Seg:=[.any [79] [89] (AG [89] [[12],[12],[83],[84],[12],[86],[87]]++[⟨4,[85,88],[],[],[]⟩]),.one,.one]
variable{ls:List UInt8}{L:List (List (Int×Int))}
theorem jcB(a b:Int):CallsF prog 348 [.c (.int .i64 a),.c (.int .i64 b)] (.u (.agg [.d (.int .i64 (lo a b)),.d (.int .i64 (hi a b))])):=by
 refine cO func348 rfl ?_;simp -implicitDefEqProofs[jJ,-qA,-qB,lo,hi]
theorem jpD(f:Fct)(w:f.args.length<=1099511627776):CallsF prog 352 [.agg f.ds] (.u (.c (.own 2 (Hg f.args).length ((Hg f.args).flatMap LC)))):=by
 refine cO func352 rfl ?_;obtain⟨b,args,o,j,k⟩:=f;simp only at w;refine rA ?_;refine CE [(3,27)] (λx:Nat×Nat×List D=>⟨[(4,vI .i64 x.1),(3,vC (.sl 3 0 x.2.1)),(1,vC (.ptr 1 0))],[(3,.row 2 x.2.2 true),(1,.box [.d (.int .i64 b),.d (AT args),.d (.bool o),.d (Ad j),.d (Ad k)])]⟩) (λx=>x.1=2*x.2.1/\x.2.1<=(Hg args).length/\x.2.2=((Hg args).take x.2.1).flatMap LC) (λx=>(Hg args).length - x.2.1) (0,0,[]) O1 O1 ?_;rintro⟨i,m,z⟩ ⟨a,y,p⟩;simp only at a y p;subst p;have q:=jd0 args;by_cases h:i+1<args.length
 ·have e:=jrm (l:=args) (m:=m) O;have r:args[2*m]' O=args[i]:=by simp only[a]
  have t:args[2*m+1]' O=args[i+1]:=by simp only[a]
  rw[r,t]at e;have g:i<=9223372036854775806:=O;have v:i<args.length:=O;refine rA2 h g ?_;refine AA (Ah [0,0,2,0,14,30,0,64,0,256,960,1984,4094,8190,16383,32767]) [.any [] [26] ([⟨0,[3],[26],[26],[]⟩]++AG [26] [[1],[14],[4],[15,16],[17],[1],[19],[4],[21],[20,22],[23],[18,24]]++[⟨1,[25],[],[],[]⟩]),.one,.one] O5 ?_;refine rD3 h v g ?_;refine aA (jcB args[i] args[i+1]) ?_;grind
 ·have g:i<=9223372036854775806:=O;have e:m=(Hg args).length:=O;subst e;exact kA2 h g
def rdg(e:Int)(f:Fct):List (List (Int×Int)):=
 if e=2/\f.kind=1 then
  let s:=AQ (f.args.getD 0 0) (f.args.getD 1 0);let t:=AQ (f.args.getD 0 0) (f.args.getD 2 0);let u:=AQ (f.args.getD 1 0) (f.args.getD 2 0)
  [[s,t],[s,u],[t,s],[t,u],[u,s],[u,t]]
 else if f.kind≠e then [] else
  match Hg f.args with
  |[a,b]=>[[a,b],[b,a]]
  |[u,v,w,z]=>[[u,v,w,z],[u,w,v,z],[z,v,w,u],[z,w,v,u],[v,u,z,w],[v,z,u,w],[w,u,z,v],[w,z,u,v]]
  |_=>[]
def Zr(l:List (List (Int×Int))):List D:=l.map Ta
theorem jrz(a:Int)(f:Fct)(b: ¬(a=2/\f.kind=1))(e:f.kind≠a):CallsF prog 283 [.c (.int .i64 a),.agg f.ds] (.u (.c (.own 1 0 []))):=by
 refine cO func283 rfl ?_;by_cases g:a=2
 ·simp_all
 simp_all
theorem jw1(e:Int)(f:Fct)(h:f.kind=e)(j:e≠7)(a b:Int×Int)(k:Hg f.args=[a,b])(l:f.args.length<=1000):
  CallsF prog 283 [.c (.int .i64 e),.agg f.ds] (.u (.c (.own 1 2 (Zr [[a,b],[b,a]])))):=by
 have g:=jpD f O;rw[k]at g;simp only[aD,aG,aH,LC,aI,aJ,aL,aM,i64,Fct.ds,h]at g;refine cO func283 rfl ?_;by_cases i:e=2
 ·subst i;refine rA1 h ?_;refine aA1 j g ?_;refine AA jou jqS O5 ?_;refine rA ?_;exact⟨rfl,rfl⟩
 ·refine rA2 i h ?_;refine aA1 j g ?_;refine AA jou jqS O5 ?_;refine rA ?_;exact⟨rfl,rfl⟩
theorem jBn(f:Fct)(b:f.kind=7)(u v w z:Int×Int)(e:Hg f.args=[u,v,w,z])(g:f.args.length<=1000):
  CallsF prog 283 [.c (.int .i64 7),.agg f.ds] (.u (.c (.own 1 8 (Zr [[u,v,w,z],[u,w,v,z],[z,v,w,u],[z,w,v,u],[v,u,z,w],[v,z,u,w],[w,u,z,v],[w,z,u,v]])))):=by
 have a:=jpD f O;rw[e]at a;simp only[aD,aG,aH,LC,aI,aJ,aL,aM,i64,Fct.ds,b]at a;refine cO func283 rfl ?_;refine rA1 b ?_;refine aA a ?_;refine AA (Ah [0,1,3,0,8,24,0,64,192,0,512,1536,0,0,0,0,61447,127039,258559,524287]) [.any [] [13,14,15,16] [⟨0,[12],[13,14,15,16],[13,14,15,16],[]⟩,⟨0,[91],[13,14,15,16],[13,14,15,16],[]⟩,⟨0,[92],[13,14,15,16],[13,14,15,16],[]⟩,⟨0,[12],[13,14,15,16],[13,14,15,16],[]⟩,⟨0,[94],[13,14,15,16],[13,14,15,16],[]⟩,⟨0,[95],[13,14,15,16],[13,14,15,16],[]⟩,⟨0,[12],[13,14,15,16],[13,14,15,16],[]⟩,⟨0,[97],[13,14,15,16],[13,14,15,16],[]⟩,⟨0,[98],[13,14,15,16],[13,14,15,16],[]⟩,⟨0,[12],[13,14,15,16],[13,14,15,16],[]⟩,⟨0,[100],[13,14,15,16],[13,14,15,16],[]⟩,⟨0,[101],[13,14,15,16],[13,14,15,16],[]⟩,⟨1,[],[14,15,16],[14,15,16],[]⟩,⟨1,[],[13,15,16],[13,15,16],[]⟩,⟨1,[],[13,14,16],[13,14,16],[]⟩,⟨1,[],[13,14,15],[13,14,15],[]⟩,⟨2,[13,93],[],[],[13]⟩,⟨2,[14,96],[],[],[14]⟩,⟨2,[15,99],[],[],[15]⟩],.one] O5 ?_;refine rA ?_;exact⟨rfl,rfl⟩
theorem jAw(f:Fct)(q:f.kind=1)(a b c:Int)(p:f.args=[a,b,c]):
  CallsF prog 283 [.c (.int .i64 2),.agg f.ds] (.u (.c (.own 1 6 (Zr [[AQ a b,AQ a c],[AQ a b,AQ b c],[AQ a c,AQ a b],[AQ a c,AQ b c],[AQ b c,AQ a b],[AQ b c,AQ a c]])))):=by
 have r:=jcB a b;have t:=jcB a c;have v:=jcB b c;simp only[AQ];generalize lo a b=e at*;generalize hi a b=g at*;generalize lo a c=h at*;generalize hi a c=k at*;generalize lo b c=l at*;generalize hi b c=m at*;refine cO func283 rfl ?_;simp only[Fct.ds,p,q];refine rF ?_;refine AA (Ah [0,1,3,0,8,24,63,0,128,384,0,1024,3072,8191,0,16384,49152,0,131072,393216,1048575,2097151,4194303]) [.any [] [] (Aq [[5],[26],[27],[5],[29],[30],[28,31],[5],[33],[34],[5],[36],[37],[35,38],[5],[40],[41],[5],[43],[44]]),.one,.one,.one] O5 ?_;simp -implicitDefEqProofs[jJ,-qA,-qB,-qF,i64];refine aF r ?_;refine aF t ?_;refine aF v ?_;refine CE [] (λi:Nat=>⟨[(50,vI .i64 i),(49,vI .i64 3),(48,vC (.sl 47 0 3)),(7,vC (.sl 7 0 (match i with|0=>0|1=>2|2=>4|_=>6))),(6,vC (.sl 47 0 3))],
  [(7,.row 1 (match i with|0=>[]|1=>[.slice 2 [.int .i64 e,.int .i64 g,.int .i64 h,.int .i64 k],.slice 2 [.int .i64 e,.int .i64 g,.int .i64 l,.int .i64 m]]|2=>[.slice 2 [.int .i64 e,.int .i64 g,.int .i64 h,.int .i64 k],.slice 2 [.int .i64 e,.int .i64 g,.int .i64 l,.int .i64 m],.slice 2 [.int .i64 h,.int .i64 k,.int .i64 e,.int .i64 g],.slice 2 [.int .i64 h,.int .i64 k,.int .i64 l,.int .i64 m]]|_=>[.slice 2 [.int .i64 e,.int .i64 g,.int .i64 h,.int .i64 k],.slice 2 [.int .i64 e,.int .i64 g,.int .i64 l,.int .i64 m],.slice 2 [.int .i64 h,.int .i64 k,.int .i64 e,.int .i64 g],.slice 2 [.int .i64 h,.int .i64 k,.int .i64 l,.int .i64 m],.slice 2 [.int .i64 l,.int .i64 m,.int .i64 e,.int .i64 g],.slice 2 [.int .i64 l,.int .i64 m,.int .i64 h,.int .i64 k]]) true),(47,.row 2 [.int .i64 e,.int .i64 g,.int .i64 h,.int .i64 k,.int .i64 l,.int .i64 m] true)]⟩) (λi=>i<=3) (λi=>3 - i) 0 O1 O ?_
 rintro i hi
 match i,hi with
 |0,_=>
  refine rF ?_;refine CE [(7,70)] (λj:Nat=>⟨[(57,vI .i64 j),(56,vI .i64 3),(55,vC (.sl 47 0 3)),(50,vI .i64 0),(49,vI .i64 3),(48,vC (.sl 47 0 3)),(8,vI .i64 0),(9,vC (.ptr 9 0)),(7,vC (.sl 7 0 (match j with|0=>0|1=>0|2=>1|_=>2))),(6,vC (.sl 47 0 3))],
   [(7,.row 1 (match j with|0=>[]|1=>[]|2=>[.slice 2 [.int .i64 e,.int .i64 g,.int .i64 h,.int .i64 k]]|_=>[.slice 2 [.int .i64 e,.int .i64 g,.int .i64 h,.int .i64 k],.slice 2 [.int .i64 e,.int .i64 g,.int .i64 l,.int .i64 m]]) true),(9,.box [.d (.int .i64 e),.d (.int .i64 g)]),(47,.row 2 [.int .i64 e,.int .i64 g,.int .i64 h,.int .i64 k,.int .i64 l,.int .i64 m] true)]⟩) (λj=>j<=3) (λj=>3 - j) 0 O1 O ?_
  rintro j o
  match j,o with
  |0,_=>
   refine rF ?_;grind
  |1,_=>
   refine rF ?_;grind
  |2,_=>
   refine rF ?_;grind
  |3,_=>
   refine rF ?_;grind
 |1,_=>
  refine rF ?_;refine CE [(7,70)] (λj:Nat=>⟨[(57,vI .i64 j),(56,vI .i64 3),(55,vC (.sl 47 0 3)),(50,vI .i64 1),(49,vI .i64 3),(48,vC (.sl 47 0 3)),(8,vI .i64 1),(9,vC (.ptr 9 0)),(7,vC (.sl 7 0 (match j with|0=>2|1=>3|2=>3|_=>4))),(6,vC (.sl 47 0 3))],
   [(7,.row 1 (match j with|0=>[.slice 2 [.int .i64 e,.int .i64 g,.int .i64 h,.int .i64 k],.slice 2 [.int .i64 e,.int .i64 g,.int .i64 l,.int .i64 m]]|1=>[.slice 2 [.int .i64 e,.int .i64 g,.int .i64 h,.int .i64 k],.slice 2 [.int .i64 e,.int .i64 g,.int .i64 l,.int .i64 m],.slice 2 [.int .i64 h,.int .i64 k,.int .i64 e,.int .i64 g]]|2=>[.slice 2 [.int .i64 e,.int .i64 g,.int .i64 h,.int .i64 k],.slice 2 [.int .i64 e,.int .i64 g,.int .i64 l,.int .i64 m],.slice 2 [.int .i64 h,.int .i64 k,.int .i64 e,.int .i64 g]]|_=>[.slice 2 [.int .i64 e,.int .i64 g,.int .i64 h,.int .i64 k],.slice 2 [.int .i64 e,.int .i64 g,.int .i64 l,.int .i64 m],.slice 2 [.int .i64 h,.int .i64 k,.int .i64 e,.int .i64 g],.slice 2 [.int .i64 h,.int .i64 k,.int .i64 l,.int .i64 m]]) true),(9,.box [.d (.int .i64 h),.d (.int .i64 k)]),(47,.row 2 [.int .i64 e,.int .i64 g,.int .i64 h,.int .i64 k,.int .i64 l,.int .i64 m] true)]⟩) (λj=>j<=3) (λj=>3 - j) 0 O1 O ?_
  rintro j o
  match j,o with
  |0,_=>
   refine rF ?_;grind
  |1,_=>
   refine rF ?_;grind
  |2,_=>
   refine rF ?_;grind
  |3,_=>
   refine rF ?_;grind
 |2,_=>
  refine rF ?_;refine CE [(7,70)] (λj:Nat=>⟨[(57,vI .i64 j),(56,vI .i64 3),(55,vC (.sl 47 0 3)),(50,vI .i64 2),(49,vI .i64 3),(48,vC (.sl 47 0 3)),(8,vI .i64 2),(9,vC (.ptr 9 0)),(7,vC (.sl 7 0 (match j with|0=>4|1=>5|2=>6|_=>6))),(6,vC (.sl 47 0 3))],
   [(7,.row 1 (match j with|0=>[.slice 2 [.int .i64 e,.int .i64 g,.int .i64 h,.int .i64 k],.slice 2 [.int .i64 e,.int .i64 g,.int .i64 l,.int .i64 m],.slice 2 [.int .i64 h,.int .i64 k,.int .i64 e,.int .i64 g],.slice 2 [.int .i64 h,.int .i64 k,.int .i64 l,.int .i64 m]]|1=>[.slice 2 [.int .i64 e,.int .i64 g,.int .i64 h,.int .i64 k],.slice 2 [.int .i64 e,.int .i64 g,.int .i64 l,.int .i64 m],.slice 2 [.int .i64 h,.int .i64 k,.int .i64 e,.int .i64 g],.slice 2 [.int .i64 h,.int .i64 k,.int .i64 l,.int .i64 m],.slice 2 [.int .i64 l,.int .i64 m,.int .i64 e,.int .i64 g]]|2=>[.slice 2 [.int .i64 e,.int .i64 g,.int .i64 h,.int .i64 k],.slice 2 [.int .i64 e,.int .i64 g,.int .i64 l,.int .i64 m],.slice 2 [.int .i64 h,.int .i64 k,.int .i64 e,.int .i64 g],.slice 2 [.int .i64 h,.int .i64 k,.int .i64 l,.int .i64 m],.slice 2 [.int .i64 l,.int .i64 m,.int .i64 e,.int .i64 g],.slice 2 [.int .i64 l,.int .i64 m,.int .i64 h,.int .i64 k]]|_=>[.slice 2 [.int .i64 e,.int .i64 g,.int .i64 h,.int .i64 k],.slice 2 [.int .i64 e,.int .i64 g,.int .i64 l,.int .i64 m],.slice 2 [.int .i64 h,.int .i64 k,.int .i64 e,.int .i64 g],.slice 2 [.int .i64 h,.int .i64 k,.int .i64 l,.int .i64 m],.slice 2 [.int .i64 l,.int .i64 m,.int .i64 e,.int .i64 g],.slice 2 [.int .i64 l,.int .i64 m,.int .i64 h,.int .i64 k]]) true),(9,.box [.d (.int .i64 l),.d (.int .i64 m)]),(47,.row 2 [.int .i64 e,.int .i64 g,.int .i64 h,.int .i64 k,.int .i64 l,.int .i64 m] true)]⟩) (λj=>j<=3) (λj=>3 - j) 0 O1 O ?_
  rintro j o
  match j,o with
  |0,_=>
   refine rF ?_;grind
  |1,_=>
   refine rF ?_;grind
  |2,_=>
   refine rF ?_;grind
  |3,_=>
   refine rF ?_;grind
 |3,_=>
  refine rF ?_;exact⟨rfl,rfl⟩
def jpP:List (List Nat):=(Ah [0,0,2,6,0,16,48,112,255,511,1023,1023,0,6143,16383])
@[simp]def joT:List Seg:=[.any [] [9] [⟨0,[6],[9],[9],[]⟩,⟨0,[4],[9],[9],[]⟩,⟨0,[59],[9],[9],[]⟩,⟨0,[60],[9],[9],[]⟩,⟨0,[5],[9],[9],[]⟩,⟨0,[62],[9],[9],[]⟩,⟨0,[63],[9],[9],[]⟩,⟨0,[64],[9],[9],[]⟩,⟨0,[58,61,65],[9],[9],[]⟩,⟨0,[66],[9],[9],[]⟩,⟨0,[57],[9],[9],[]⟩,⟨0,[57],[9],[9],[]⟩,⟨1,[],[],[],[]⟩,⟨2,[9,67],[],[],[9]⟩],.one]
def jnR:List (List Nat):=(Ah [0,0,2,6,0,16,0,64,240,496,1023,2047,4095,4095,8191,32767])
@[simp]def jse:List Seg:=[.any [] [] (Aq [[9],[4],[72],[73],[5],[75],[8],[77],[76,78],[79]]),.one,.one,.any [] [] [⟨0,[70],[],[],[]⟩,⟨0,[70],[9],[],[]⟩,⟨2,[9,82],[],[],[9]⟩],.one]
def jpp:List (List Nat):=(Ah [0,0,2,6,0,16,0,64,240,496,1023,2047,4095,4095,8191,32767])
@[simp]def jpz:List Seg:=[.any [] [] (Aq [[9],[4],[87],[88],[5],[90],[8],[92],[91,93],[94]]),.one,.one,.any [] [] [⟨0,[85],[],[],[]⟩,⟨0,[85],[9],[],[]⟩,⟨2,[9,97],[],[],[9]⟩],.one]
theorem juh(x:Value)(p:Pat)(f:Fct)(b:Bnd)(hk:p.kind=1\/p.kind=6\/p.kind=8)(k: ∀c∈p.letters,cap c)(i:p.letters.length<=1000)(j: ∀a∈f.args,-1<=a/\a<1000000)(h:f.args.length<=1000):
  Gy prog x 183 [.agg p.ds,.agg f.ds,.agg b.ds,.c (.lit x)] ((if f.kind=p.kind then mp p.letters f.args b else []).map Hf):=by
 have l:=jpj x p.letters f.args b k j h i;by_cases g:f.kind=p.kind
 ·rw[if_pos g];refine Ps (T:=tb) Ak mixed func183 rfl O2 (Al rfl) rfl rfl ?_;intro e;unfold St.initY;simp only[Pat.ds];rcases hk with hk|hk|hk
  all_goals
   refine rF2 hk g ?_;refine .inr (.inr (.inl ⟨x,(mp p.letters f.args b).map Hf,e,_,by simp[lk],?_,l,?_⟩))
   ·simp[St.argsW,U.toA,toD]
   ·simp only[St.reachU,aD,aG,U.all,aH,aI,aJ,M4,Bnd.reach_cs,Oj,ND];simp -implicitDefEqProofs[jJ,-qA,-qB,-qF,St.backY,St.rest,LQ]
 ·rw[if_neg g];refine Ps (T:=tb) Ak mixed func183 rfl O2 (Al rfl) rfl rfl ?_;intro e;unfold St.initY;simp only[Pat.ds];rcases hk with hk|hk|hk
  all_goals
   rw[hk]at g;simp -implicitDefEqProofs[jJ,-qA,-qB,-qF,hk,g,LQ]
def X8(ls:List UInt8)(L:List (List (Int×Int)))(b:Bnd)(i:Nat):List (List A):=((L.drop i).flatMap λl=>ms ls l b).map Hf
theorem jxb{b:Bnd}{i:Nat}(h:i<L.length):X8 ls L b i=(ms ls L[i] b).map Hf++X8 ls L b (i+1):=by
 unfold X8;rw[BQ h,aD,List.map_append]
theorem jyo{b:Bnd}:X8 ls L b L.length=[]:=by simp[X8]
theorem jdq(x:Value)(p:Pat)(f:Fct)(b:Bnd)(z:p.kind≠1/\p.kind≠6/\p.kind≠8/\p.kind≠5)(L:List (List (Int×Int)))(F:L.length<=1000)(r:CallsF prog 283 [.c (.int .i64 p.kind),.agg f.ds] (.u (.c (.own 1 L.length (Zr L)))))
  (q: ∀l∈L,Qj p.letters l/\(∀s∈l,U5 s)/\l.length<=1000) (o:p.letters.length<=1000):
  Gy prog x 183 [.agg p.ds,.agg f.ds,.agg b.ds,.c (.lit x)] ((L.flatMap λl=>ms p.letters l b).map Hf):=by
 obtain⟨t,w,y,v⟩:=z;obtain⟨k,ls,n⟩:=p;simp only[Fct.ds]at*;show Gy _ _ _ _ (X8 ls L b 0);refine Ps (T:=tb) Ak mixed func183 rfl O2 (Al rfl) rfl rfl ?_;intro a;unfold St.initY;simp only[Pat.ds];simp -implicitDefEqProofs[jJ,-qA,-qB,-qF,t,w,y,v];refine aF r ?_;refine AV (λi:Nat=>⟨[(1000000,.tr x (X8 ls L b i++a)),(20,vI .i64 i),(19,vI .i64 L.length),(18,vC (.sl 18 0 L.length)),(6,vC (.ptr 6 0)),(4,vC (.ptr 4 0)),(3,vC (.d (.lit x)))],
  [(18,.row 1 (Zr L) true),(6,.box b.cs),(4,.box [.d (.int .i64 k),.d (.str (bs ls)),.d (.int .i64 n)])]⟩) (λi=>i<=L.length) (λi=>L.length - i) 0 (by simp[AW,lk,St.le,vI,vC]) O ?_
 rintro i hi;by_cases h:i<L.length
 ·have g:(Zr L)[i]? =some (Ta L[i]):=by simp[Zr,h]
  have m:=q L[i] (AZ h);have E:=juT x ls.length ls L[i] b (AO _) m.1 m.2.1 m.2.2 o;have e:=jxb (ls:=ls) (b:=b) h;simp -implicitDefEqProofs[jJ,-qA,-qB,-qF,h,g,e];refine .inr (.inr (.inl ⟨x,(ms ls L[i] b).map Hf,X8 ls L b (i+1)++a,_,by simp[lk],?_,E,?_⟩))
  ·simp[St.argsW,U.toA,toD]
  ·simp only[St.reachU,aD,aG,U.all,aH,aI,aJ,M4,Bnd.reach_cs,Oj,ND];simp -implicitDefEqProofs[jJ,-qA,-qB,-qF,St.backY,St.rest];exact⟨O,i+1,⟨rfl,rfl⟩,O,O⟩
 ·have j:i=L.length:=O;subst j;rw[jyo];simp -implicitDefEqProofs[jJ,-qA,-qB,-qF,LQ]
def SL(x y z:Nat)(b:Bnd)(m p q:Int):List Bnd:=
 match b.point x m with|none=>[]|some a=>match a.point y p with|none=>[]|some e=>match e.point z q with|none=>[]|some f=>[f]
theorem jwq(x:Value)(p:Pat)(f:Fct)(b:Bnd)(I:p.kind=5)(r t w:UInt8)(J:p.letters=[r,t,w])(e g h:Nat)(F:r.toNat=65+e)(G:t.toNat=65+g)(H:w.toNat=65+h)(N:e<26)(P:g<26)(Q:h<26)
  (m u v:Int) (S:f.args=[m,u,v]) (K: -1<=m/\m<1000000) (L: -1<=u/\u<1000000) (M: -1<=v/\v<1000000) (W:f.kind=5):
  Gy prog x 183 [.agg p.ds,.agg f.ds,.agg b.ds,.c (.lit x)] ((SL e g h b m u v++SL e g h b m v u).map Hf):=by
 obtain⟨k,Y,n⟩:=p;simp only at I J;subst I J;have X:(bs [r,t,w]).size=3:=rfl;refine Ps (T:=tb) Ak mixed func183 rfl O2 (Al rfl) rfl rfl ?_;intro q;unfold St.initY;simp only[Pat.ds,Fct.ds,S,W];refine rF ?_;refine AV (λi:Nat=>⟨[(1000000,.tr x ((match i with|0=>SL e g h b m u v++SL e g h b m v u|1=>SL e g h b m v u|_=>[]).map Hf++q)),(54,vI .i64 i),(6,vC (.ptr 6 0)),(5,vC (.ptr 5 0)),(4,vC (.ptr 4 0)),(3,vC (.d (.lit x)))],
  [(6,.box b.cs),(5,.box [.d (.int .i64 5),.d (AT [m,u,v]),.d (.bool f.neg),.d (Ad f.abs),.d (Ad f.den)]),(4,.box [.d (.int .i64 5),.d (.str (bs [r,t,w])),.d (.int .i64 n)])]⟩) (λi=>i<=2) (λi=>2 - i) 0 (by simp[AW,lk,St.le,vI,vC]) O ?_
 rintro i hi
 match i,hi with
 |0,_=>
  have a:SL e g h b m u v=match b.point e m with|none=>[]|some j=>match j.point g u with|none=>[]|some l=>match l.point h v with|none=>[]|some o=>[o]:=rfl
  refine rF ?_;refine AA jpP joT O5 ?_;simp -implicitDefEqProofs[jJ,-qA,-qB,-qF,F,i64];refine Ae (UK b e N m K) ?_;generalize b.point e m=y at*;cases y with
  |none=>
   simp only at a;refine rR1 a ?_;exact⟨1,⟨O1,rfl⟩,O,O⟩
  |some j=>
   simp only at a;simp -implicitDefEqProofs[jJ,-qA,-qB,-qF,KI];refine AA jnR jse O5 ?_;simp -implicitDefEqProofs[jJ,-qA,-qB,-qF,G,i64];refine Ac (UK j g P u L) ?_;generalize j.point g u=z at*;cases z with
   |none=>
    simp only at a;refine rR1 a ?_;exact⟨1,⟨O1,rfl⟩,O,O⟩
   |some l=>
    simp only at a;simp -implicitDefEqProofs[jJ,-qA,-qB,-qF,KI];refine AA jpp jpz O5 ?_;simp -implicitDefEqProofs[jJ,-qA,-qB,-qF,H,i64];refine Ac (UK l h Q v M) ?_;generalize l.point h v=E at*;cases E with
    |none=>
     simp only at a;refine rR1 a ?_;exact⟨1,⟨O1,rfl⟩,O,O⟩
    |some o=>
     simp only at a;refine rR1 a ?_;refine⟨Hf o,_,by simp[lk];rfl,by simp[Hf,St.argsW,U.toA,lk],?_⟩;simp only[St.reachU,aD,aG,U.all,aH,Bnd.reach_cs];simp -implicitDefEqProofs[jJ,-qA,-qB,-qF,St.backY,St.rest];exact⟨1,⟨O1,rfl⟩,O,O⟩
 |1,_=>
  have a:SL e g h b m v u=match b.point e m with|none=>[]|some j=>match j.point g v with|none=>[]|some l=>match l.point h u with|none=>[]|some o=>[o]:=rfl
  refine rF ?_;refine AA jpP joT O5 ?_;simp -implicitDefEqProofs[jJ,-qA,-qB,-qF,F,i64];refine Ae (UK b e N m K) ?_;generalize b.point e m=y at*;cases y with
  |none=>
   simp only at a;refine rR1 a ?_;exact⟨2,⟨O1,rfl⟩,O,O⟩
  |some j=>
   simp only at a;simp -implicitDefEqProofs[jJ,-qA,-qB,-qF,KI];refine AA jnR jse O5 ?_;simp -implicitDefEqProofs[jJ,-qA,-qB,-qF,G,i64];refine Ac (UK j g P v M) ?_;generalize j.point g v=z at*;cases z with
   |none=>
    simp only at a;refine rR1 a ?_;exact⟨2,⟨O1,rfl⟩,O,O⟩
   |some l=>
    simp only at a;simp -implicitDefEqProofs[jJ,-qA,-qB,-qF,KI];refine AA jpp jpz O5 ?_;simp -implicitDefEqProofs[jJ,-qA,-qB,-qF,H,i64];refine Ac (UK l h Q u L) ?_;generalize l.point h u=E at*;cases E with
    |none=>
     simp only at a;refine rR1 a ?_;exact⟨2,⟨O1,rfl⟩,O,O⟩
    |some o=>
     simp only at a;refine rR1 a ?_;refine⟨Hf o,_,by simp[lk];rfl,by simp[Hf,St.argsW,U.toA,lk],?_⟩;simp only[St.reachU,aD,aG,U.all,aH,Bnd.reach_cs];simp -implicitDefEqProofs[jJ,-qA,-qB,-qF,St.backY,St.rest];exact⟨2,⟨O1,rfl⟩,O,O⟩
 |2,_=>
  simp -implicitDefEqProofs[jJ,-qA,-qB,-qF,LQ]
theorem jvH(x:Value)(p:Pat)(f:Fct)(b:Bnd)(g:p.kind=5)(e:f.kind≠5):Gy prog x 183 [.agg p.ds,.agg f.ds,.agg b.ds,.c (.lit x)] []:=by
 refine Ps (T:=tb) Ak mixed func183 rfl O2 (Al rfl) rfl rfl ?_;intro a;unfold St.initY;simp only[Pat.ds,Fct.ds,g];simp -implicitDefEqProofs[jJ,-qA,-qB,-qF,e,LQ]
def jrp:List (List Nat):=(Ah [0,0,2,6,0,30,0,64,192,0,1022,2047,4095,8191,16383])
@[simp]def jnq:List Seg:=[.any [] [] (Aq [[5],[3],[20],[21],[5],[22,23],[3],[25],[26],[5],[27,28]]),.one,.one,.one,.one]
def jnO:List (List Nat):=(Ah [0,1,3,7,15,31,7,71,199,511,1023,2047])
@[simp]def jsY:List Seg:=[.one,.one,.one,.any [] [] (Aq [[3,25],[26,25],[27,25],[3,25],[29,25],[30,25]]),.one,.one,.one]
def jnn:List (List Nat):=(Ah [0,1,3,7,15,31,7,71,199,511,1023,2047,4095,4095,12287,32767,65535,131071])
@[simp]def jta:List Seg:=[.one,.one,.one,.any [] [] (Aq [[3,48],[49,48],[50,48],[3,48],[52,48],[53,48]]),.one,.one,.one,.any [] [] (Aq [[4,57],[1,57],[59,57]]),.one,.one,.one]
theorem jms(k:Int)(l:List Int)(neg:Bool)(a b:List Nat)(f:l≠[])(g:l.length<=1099511627776):CallsF prog 170 [.agg [.int .i64 k,AT l,.bool neg,Ad a,Ad b]] (Fct.res ⟨k,LI l,false,[],[]⟩):=by
 refine cO func170 rfl ?_;have h:=jlM l g f;have i:=jmd 6 l true f g;have e:=Zv l;simp (maxSteps:=2000000) -implicitDefEqProofs[jJ,-qA,-qB];refine Ac h ?_;simp (maxSteps:=2000000) -implicitDefEqProofs[jJ,-qA,-qB];refine .inr (.inl (Hn i (by simp[DB,U.all,C.id?]) (by simp[lk]) ?_));simp (maxSteps:=2000000) -implicitDefEqProofs[jJ,-qA,-qB,St.backW,Fct.res,e];rw[<-e,Ba O1];exact⟨rfl,rfl⟩
theorem jwz(k a b c:Int)(neg:Bool)(e f:List Nat):CallsF prog 165 [.agg [.int .i64 k,AT [a,b,c],.bool neg,Ad e,Ad f]] (Fct.res ⟨k,[a,lo b c,hi b c],false,[],[]⟩):=by
 refine cO func165 rfl ?_;have g:=joF b c;simp (maxSteps:=2000000) -implicitDefEqProofs[jJ,-qA,-qB];refine AA (Ah [0,1,3,7,0,16,48,112,255,0,1023]) [.any [] [3] [⟨0,[1],[3],[3],[]⟩,⟨0,[4],[3],[3],[]⟩,⟨0,[5],[3],[3],[]⟩,⟨0,[6],[3],[3],[]⟩,⟨0,[1],[3],[3],[]⟩,⟨0,[8],[3],[3],[]⟩,⟨0,[9],[3],[3],[]⟩,⟨0,[10],[3],[3],[]⟩,⟨0,[7,11],[3],[3],[]⟩,⟨1,[],[],[],[]⟩],.one] O5 ?_;simp (maxSteps:=2000000) -implicitDefEqProofs[jJ,-qA,-qB,i64];refine Ae g ?_;simp (maxSteps:=2000000) -implicitDefEqProofs[jJ,-qA,-qB];refine AA (Ah [0,1,0,4,12,28,0,64,0,256,1020,2047,4095]) [.any [] [23] ([⟨0,[1],[23],[23],[]⟩,⟨0,[13],[23],[23],[]⟩]++AG [23] [[1],[15],[16],[17],[3],[19],[3],[21]]++[⟨1,[18,20,22],[],[],[]⟩]),.one,.one] O5 ?_;simp (maxSteps:=2000000) -implicitDefEqProofs[jJ,-qA,-qB,i64,Fct.res];exact⟨rfl,rfl⟩
def TZ(p q:Int×Int):Fct:=
 if q.1=p.1\/q.2=p.1 then ⟨1,LI [p.1,oth p.1 p.2 p.1,oth q.1 q.2 p.1],false,[],[]⟩
 else if q.1=p.2\/q.2=p.2 then ⟨1,LI [p.2,oth p.1 p.2 p.2,oth q.1 q.2 p.2],false,[],[]⟩
 else MK 2 p q
theorem jwu(a b c d:Int)(neg:Bool)(e f:List Nat)(I:0<=a/\a<40)(J:0<=b/\b<40)(K:0<=c/\c<40)(L:0<=d/\d<40):
  CallsF prog 166 [.agg [.int .i64 2,AT [a,b,c,d],.bool neg,Ad e,Ad f]] (TZ (AQ a b) (AQ c d)).res:=by
 refine cO func166 rfl ?_;have H:=jeK 2 a b c d neg e f;have q:=jjv 2 a b c d neg e f;have r:0<=lo a b/\lo a b<40:=by unfold lo;split<;>omega
 have v:0<=hi a b/\hi a b<40:=by unfold hi;split<;>omega
 have M:0<=lo c d/\lo c d<40:=by unfold lo;split<;>omega
 have N:0<=hi c d/\hi c d<40:=by unfold hi;split<;>omega
 unfold TZ;unfold AQ at q ⊢;simp only;generalize AT [a,b,c,d]=l at*;generalize lo c d=x at*;generalize hi c d=y at*;generalize lo a b=z at*;generalize hi a b=t at*;have k:=jq0 x y z;have m:=jq0 x y t;have w:=λp (G:0<=p/\p<40)=>jqc z t p O O O;have E:=λp (G:0<=p/\p<40)=>jqc x y p O O O;simp (maxSteps:=2000000) -implicitDefEqProofs[jJ,-qA,-qB];refine Ac H ?_;simp (maxSteps:=2000000) -implicitDefEqProofs[jJ,-qA,-qB];refine AV (λi:Nat=>⟨[(11,vI .i64 i),(10,.u (.agg [.d (.int .i64 z),.d (.int .i64 t)])),(3,vC (.sl 7 0 2)),(2,vC (.ptr 2 0)),(1,vC (.ptr 1 0))],[(7,.row 2 [.int .i64 z,.int .i64 t,.int .i64 x,.int .i64 y] true),(2,.box [.d (.int .i64 0),.nl,.d (.bool false),.nl,.nl]),(1,.box [.d (.int .i64 2),.d l,.d (.bool neg),.d (Ad e),.d (Ad f)])]⟩)
  (λi=>i<=2/\(0<i-> ¬(x=z\/y=z))/\(1<i-> ¬(x=t\/y=t))) (λi=>2 - i) 0 O1 O1 ?_
 rintro i ⟨hi,j,F⟩
 match i,hi with
 |0,_=>
  by_cases h:x=z\/y=z
  ·have g:(decide (x=z)||decide (y=z))=true:=by simpa using h
   rw[g]at k;rw[if_pos h];have o:=jms 1 [z,oth z t z,oth x y z] false [] [] O1 O1;simp (maxSteps:=2000000) -implicitDefEqProofs[jJ,-qA,-qB];refine Ac k ?_;simp (maxSteps:=2000000) -implicitDefEqProofs[jJ,-qA,-qB];refine AA jrp jnq O5 ?_;simp (maxSteps:=2000000) -implicitDefEqProofs[jJ,-qA,-qB];refine Ae (w z r) ?_;simp (maxSteps:=2000000) -implicitDefEqProofs[jJ,-qA,-qB];refine Ae (E z r) ?_;simp (maxSteps:=2000000) -implicitDefEqProofs[jJ,-qA,-qB];refine Ac o ?_;simp (maxSteps:=2000000) -implicitDefEqProofs[jJ,-qA,-qB,Fct.res]
  ·have g:(decide (x=z)||decide (y=z))=false:=by simpa using h
   rw[g]at k;rw[if_neg h];simp (maxSteps:=2000000) -implicitDefEqProofs[jJ,-qA,-qB];refine Ac k ?_;simp (maxSteps:=2000000) -implicitDefEqProofs[jJ,-qA,-qB];simpa using h
 |1,_=>
  have j:=j O;rw[if_neg j];by_cases h:x=t\/y=t
  ·have g:(decide (x=t)||decide (y=t))=true:=by simpa using h
   rw[g]at m;rw[if_pos h];have o:=jms 1 [t,oth z t t,oth x y t] false [] [] O1 O1;simp (maxSteps:=2000000) -implicitDefEqProofs[jJ,-qA,-qB];refine Ac m ?_;simp (maxSteps:=2000000) -implicitDefEqProofs[jJ,-qA,-qB];refine AA jrp jnq O5 ?_;simp (maxSteps:=2000000) -implicitDefEqProofs[jJ,-qA,-qB];refine Ae (w t v) ?_;simp (maxSteps:=2000000) -implicitDefEqProofs[jJ,-qA,-qB];refine Ae (E t v) ?_;simp (maxSteps:=2000000) -implicitDefEqProofs[jJ,-qA,-qB];refine Ac o ?_;simp (maxSteps:=2000000) -implicitDefEqProofs[jJ,-qA,-qB,Fct.res]
  ·have g:(decide (x=t)||decide (y=t))=false:=by simpa using h
   rw[g]at m;rw[if_neg h];simp (maxSteps:=2000000) -implicitDefEqProofs[jJ,-qA,-qB];refine Ac m ?_;simp (maxSteps:=2000000) -implicitDefEqProofs[jJ,-qA,-qB];exact⟨by simpa using j,by simpa using h⟩
 |2,_=>
  rw[if_neg (j O),if_neg (F O)];simp (maxSteps:=2000000) -implicitDefEqProofs[jJ,-qA,-qB];refine Ac q ?_;simp (maxSteps:=2000000) -implicitDefEqProofs[jJ,-qA,-qB,Fct.res]
def O7(neg:Bool)(m e:Nat)(p q:Int×Int):Fct:=
 if LG neg m=e then MK 4 p q
 else if m≠0/\Dg q p<0 then ⟨9,[q.1,q.2,p.1,p.2],neg,limbs e,limbs m⟩
 else if m≠0/\p=q/\Nk (LG neg e*e) (LG neg m*m)<0 then ⟨9,[p.1,p.2,q.1,q.2],neg,limbs e,limbs m⟩
 else ⟨9,[p.1,p.2,q.1,q.2],neg,limbs m,limbs e⟩
theorem jq8(neg:Bool)(m e:Nat)(g:m<340282366920938463463374607431768211456)(f:e<340282366920938463463374607431768211456)(a:e≠0):CallsF prog 262 [.agg [.bool neg,Ad (limbs m),Ad (limbs e)],.agg [.bool false,Ad (limbs 1),Ad (limbs 1)]] (.u (.c (.d (.bool (decide (LG neg m=e)))))):=by
 have i:=BP (n:=m) O;have h:=BP (n:=e) O;have k:=jxm neg false (limbs m) (limbs e) (limbs 1) (limbs 1) (Aw _) O (Aw _) O (Aw _) O2 (Aw _) O2 (by rw[Az];exact a) (by rw[Az];omega);rw[Az,Az,Az]at k;have b:(LG neg m*(1:Nat)=LG false 1*(e:Int))=(LG neg m=e):=by simp[LG]
 simpa only[b]using k
theorem jBe(neg:Bool)(m e:Nat)(g:m<340282366920938463463374607431768211456)(f:e<340282366920938463463374607431768211456)(b:m≠0)(a:e≠0):CallsF prog 92 [.agg [.bool neg,Ad (limbs e),Ad (limbs m)],.agg [.bool neg,Ad (limbs m),Ad (limbs e)]] (.u (.c (.d (.int .i64 (Nk (LG neg e*e) (LG neg m*m)))))):=by
 have i:=BP (n:=m) O;have h:=BP (n:=e) O;have k:=jl5 neg neg (limbs e) (limbs m) (limbs m) (limbs e) (Aw _) O (Aw _) O (Aw _) O (Aw _) O (by rw[Az];exact b) (by rw[Az];exact a);rw[Az,Az]at k;exact k
theorem jBi(a b c d:Int)(neg:Bool)(m e:Nat)(v:m<340282366920938463463374607431768211456)(r:e<340282366920938463463374607431768211456)(o:e≠0)(F:Nat.gcd m e=1):
  CallsF prog 168 [.agg [.int .i64 9,AT [a,b,c,d],.bool neg,Ad (limbs m),Ad (limbs e)]] (O7 neg m e (AQ a b) (AQ c d)).res:=by
 refine cO func168 rfl ?_;have G:=jeK 9 a b c d neg (limbs m) (limbs e);have w:=jjv 4 a b c d false [] [];have H:=jq8 neg m e v r o;have E:=jd8 1 O;have I:=jnm neg m e O O o F;have k:=λh=>jBe neg m e v r h o;unfold O7;unfold AQ at w ⊢;simp only;generalize AT [a,b,c,d]=l at*;generalize lo c d=x at*;generalize hi c d=y at*;generalize lo a b=z at*;generalize hi a b=t at*;have J:=ja4 x y z t;have K:=jdp 9 x y z t neg (limbs e) (limbs m);have L:=jdp 9 z t x y neg (limbs e) (limbs m);have f:=jdp 9 z t x y neg (limbs m) (limbs e);simp (maxSteps:=2000000) -implicitDefEqProofs[jJ,-qA,-qB];refine AA (Ah [0,1,0,7]) [.any [] [] (Aq [[1],[6],[]]),.one] O5 ?_;simp (maxSteps:=2000000) -implicitDefEqProofs[jJ,-qA,-qB];refine Ae E ?_;simp (maxSteps:=2000000) -implicitDefEqProofs[jJ,-qA,-qB];refine Ac H ?_;by_cases j:LG neg m=e
 ·rw[if_pos j];simp (maxSteps:=2000000) -implicitDefEqProofs[jJ,-qA,-qB,j];refine Ac w ?_;simp (maxSteps:=2000000) -implicitDefEqProofs[jJ,-qA,-qB,Fct.res]
 ·rw[if_neg j];simp (maxSteps:=2000000) -implicitDefEqProofs[jJ,-qA,-qB,j];refine Ac G ?_;simp (maxSteps:=2000000) -implicitDefEqProofs[jJ,-qA,-qB];refine AA (Ah [0,0,2,7,15,31,31,0,191,511]) [.any [] [4] [⟨0,[],[4],[4],[]⟩,⟨0,[1],[4],[4],[]⟩,⟨0,[18],[4],[4],[]⟩,⟨0,[17,19],[4],[4],[]⟩,⟨0,[20],[4],[4],[]⟩,⟨0,[16],[4],[4],[]⟩,⟨0,[16],[4],[4],[]⟩,⟨1,[],[],[],[]⟩,⟨2,[4,21],[],[],[4]⟩],.one] O5 ?_;simp (maxSteps:=2000000) -implicitDefEqProofs[jJ,-qA,-qB];refine Ae E ?_;simp (maxSteps:=2000000) -implicitDefEqProofs[jJ,-qA,-qB];refine Ae I ?_;by_cases h:m=0
  ·simp (maxSteps:=2000000) -implicitDefEqProofs[jJ,-qA,-qB,h];refine AA jnO jsY O5 ?_;simp (maxSteps:=2000000) -implicitDefEqProofs[jJ,-qA,-qB];refine AA jnn jta O5 ?_;simp (maxSteps:=2000000) -implicitDefEqProofs[jJ,-qA,-qB];subst h;refine Ac f ?_;simp (maxSteps:=2000000) -implicitDefEqProofs[jJ,-qA,-qB,Fct.res]
  ·have k:=k h;simp (maxSteps:=2000000) -implicitDefEqProofs[jJ,-qA,-qB,h];refine AA jnO jsY O5 ?_;simp (maxSteps:=2000000) -implicitDefEqProofs[jJ,-qA,-qB];refine Ac J ?_;by_cases p:Dg (x,y) (z,t)<0
   ·simp (maxSteps:=2000000) -implicitDefEqProofs[jJ,-qA,-qB,p];refine AA (Ah [0,1,0,0,8,24,0,64,192,504,1023,2047]) [.any [] [44] ([⟨0,[1],[44],[44],[]⟩,⟨0,[35],[44],[44],[]⟩,⟨0,[4],[44],[44],[]⟩]++AG [44] [[3],[38],[39],[3],[41],[42]]++[⟨1,[40,43],[],[],[]⟩]),.one,.one] O5 ?_;simp (maxSteps:=2000000) -implicitDefEqProofs[jJ,-qA,-qB];refine Ac K ?_;simp (maxSteps:=2000000) -implicitDefEqProofs[jJ,-qA,-qB,Fct.res]
   ·simp (maxSteps:=2000000) -implicitDefEqProofs[jJ,-qA,-qB,p];refine AA jnn jta O5 ?_;by_cases g:z=x
    ·by_cases i:t=y
     ·by_cases q:Nk (LG neg e*e) (LG neg m*m)<0
      ·simp (maxSteps:=2000000) -implicitDefEqProofs[jJ,-qA,-qB,g,i];refine Ac k ?_;simp (maxSteps:=2000000) -implicitDefEqProofs[jJ,-qA,-qB,q];subst g i;refine Ac L ?_;simp (maxSteps:=2000000) -implicitDefEqProofs[jJ,-qA,-qB,Fct.res]
      ·simp (maxSteps:=2000000) -implicitDefEqProofs[jJ,-qA,-qB,g,i];refine Ac k ?_;simp (maxSteps:=2000000) -implicitDefEqProofs[jJ,-qA,-qB,q];subst g i;refine Ac f ?_;simp (maxSteps:=2000000) -implicitDefEqProofs[jJ,-qA,-qB,Fct.res]
     ·simp (maxSteps:=2000000) -implicitDefEqProofs[jJ,-qA,-qB,g,i];subst g;refine Ac f ?_;simp (maxSteps:=2000000) -implicitDefEqProofs[jJ,-qA,-qB,Fct.res]
    ·simp (maxSteps:=2000000) -implicitDefEqProofs[jJ,-qA,-qB,g];refine Ac f ?_;simp (maxSteps:=2000000) -implicitDefEqProofs[jJ,-qA,-qB,Fct.res]
end Go.Va
