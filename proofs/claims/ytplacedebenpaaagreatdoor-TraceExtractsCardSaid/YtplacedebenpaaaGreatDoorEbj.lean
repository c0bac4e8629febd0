/- a part of the proof -/
import Derived.Test.YtplacedebenpaaaGreatDoorEbi
set_option linter.all false
set_option maxHeartbeats 4000000
set_option maxRecDepth 10000
namespace Go.Va
open _root_.Bool renaming and_eq_false_iff → aD, and_true → aG
open Int renaming natCast_add → qA, natCast_mul → qB
open Go.Proofs Go.Proofs.Tryz
def jow:List (List Nat):=(Ah [0,1,0,0,12,28,63,127])
@[simp]def jpN:List Seg:=[.any [] [94] (AG [94] [[3],[90],[5],[4]]++[⟨4,[92,93],[],[],[]⟩]++[⟨0,[94],[],[],[]⟩]),.one,.one]
def jqk:List (List Nat):=(Ah [0,1,0,0,12,28,63,127])
@[simp]def jnu:List Seg:=[.any [] [101] (AG [101] [[3],[97],[4],[5]]++[⟨4,[99,100],[],[],[]⟩]++[⟨0,[101],[],[],[]⟩]),.one,.one]
def jdg:List (List Nat):=(Ah [0,1,0,7])
@[simp]def jdN:List Seg:=[.any [] [] (Aq [[3],[42],[]]),.one]
def jmJ:List (List Nat):=(Ah [0,1,0,0,12,28,0,64,0,0,768,2044,4095,8191])
@[simp]def jjH:List Seg:=[.any [] [78] (AG [78] [[3],[74],[4],[5]]++[⟨4,[76,77],[],[],[]⟩]++[⟨0,[78],[],[],[]⟩]++AG [78] [[3],[80],[4],[5],[82,83]]++[⟨0,[81,84],[],[],[]⟩]),.one,.one]
theorem jrw(k:Int)(l:List Int)(neg:Bool)(e f:List Nat)(a b c d:Int)(p:k=3\/k=4):CallsF prog 72 [.agg [.int .i64 k,AT l,.bool neg,Ad e,Ad f],.agg [.int .i64 a,.int .i64 b],.agg [.int .i64 c,.int .i64 d]] (MK k (a,b) (c,d)).res:=by
 have j:=PE c d a b;have m:=jax c d a b;have o:=jax a b c d;have g: ¬k=2:=O;have i: ¬k=9:=O;unfold MK;simp only;refine cO func72 rfl ?_;by_cases h:Dg (c,d) (a,b)<0
 ·refine rA2 g i ?_;refine aA1 h j ?_;refine AA jow jpN O5 ?_;refine rA ?_;refine Ae m ?_;exact kH
 ·refine rA2 g i ?_;refine aA1 h j ?_;refine AA jqk jnu O5 ?_;refine rA ?_;refine Ae o ?_;exact kH
theorem jxz(l:List Int)(neg:Bool)(j k:List Nat)(a b c d:Int)(t:0<=a/\a<40)(v:0<=b/\b<40)(w:0<=c/\c<40)(E:0<=d/\d<40):
  CallsF prog 72 [.agg [.int .i64 2,AT l,.bool neg,Ad j,Ad k],.agg [.int .i64 a,.int .i64 b],.agg [.int .i64 c,.int .i64 d]] (TZ (a,b) (c,d)).res:=by
 have e:=jyL a b c d;have p:=PE c d a b;have q:=jax c d a b;have r:=jax a b c d;have i:=λx y z=>jtk [x,y,z] O1;unfold TZ;unfold jfq at e;simp only at e ⊢;by_cases m:c=a\/d=a
 ·have f:a=c\/a=d:=O;rw[if_pos m];rw[if_pos f]at e;have s:CallsF prog 69 [.c (.slice 3 [.int .i64 a,.int .i64 (a+b - a),.int .i64 (c+d - a)])] _:=i a (a+b - a) (c+d - a);refine oA func72 ?_;refine aA e ?_;refine⟨O,O,O,O,?_⟩;refine Ac s ?_;simp -implicitDefEqProofs[jJ,-qA,-qB,Fct.res,oth]
 ·have f: ¬(a=c\/a=d):=O;rw[if_neg m];rw[if_neg f]at e;by_cases o:c=b\/d=b
  ·have g:b=c\/b=d:=O;rw[if_pos o];rw[if_pos g]at e;have s:CallsF prog 69 [.c (.slice 3 [.int .i64 b,.int .i64 a,.int .i64 (c+d - b)])] _:=i b a (c+d - b);rw[jgJ];refine oA func72 ?_;refine aA e ?_;refine⟨O,O,O,O,?_⟩;refine Ac s ?_;simp -implicitDefEqProofs[jJ,-qA,-qB,Fct.res,oth]
  ·have g: ¬(b=c\/b=d):=O;rw[if_neg o];rw[if_neg g]at e;unfold MK;refine cO func72 rfl ?_;by_cases h:Dg (c,d) (a,b)<0
   ·refine rA ?_;refine aA e ?_;refine aA1 h p ?_;refine AA jow jpN O5 ?_;refine rA ?_;refine Ae q ?_;exact kH
   ·refine rA ?_;refine aA e ?_;refine aA1 h p ?_;refine AA jqk jnu O5 ?_;refine rA ?_;refine Ae r ?_;exact kH
theorem joa(neg:Bool)(m e:Nat)(h:m<340282366920938463463374607431768211456)(g:e<340282366920938463463374607431768211456)(a:e≠0)(f:Nat.gcd m e=1):CallsF prog 75 [.agg [.bool neg,Ad (limbs m),Ad (limbs e)],.agg [.bool false,Ad (limbs 1),Ad (limbs 1)]] (.u (.c (.d (.bool (decide (LG neg m=e)))))):=by
 have k:=jwP neg false m e 1 1 O O a f O O O O2;have b:(LG neg m*(1:Nat)=LG false 1*(e:Int))=(LG neg m=e):=by simp[LG]
 simpa only[b]using k
theorem jxB(l:List Int)(neg:Bool)(m e:Nat)(a b c d:Int)(w:m<340282366920938463463374607431768211456)(v:e<340282366920938463463374607431768211456)(k:e≠0)(p:Nat.gcd m e=1):
  CallsF prog 72 [.agg [.int .i64 9,AT l,.bool neg,Ad (limbs m),Ad (limbs e)],.agg [.int .i64 a,.int .i64 b],.agg [.int .i64 c,.int .i64 d]] (O7 neg m e (a,b) (c,d)).res:=by
 have r:=PE c d a b;have F:=jax c d a b;have x:=jax a b c d;have q:=joa neg m e w v k p;have i:=jcg 1 O;have G:=jrw 4 [] false [] [] a b c d (.inr rfl);have z:=jjc neg m e O O k p;have E:=jgj neg m e O O k p;have g:=jyQ neg m e w v k p (decide (a=c)&&decide (b=d));unfold O7;simp only[Prod.mk.injEq];clear w v k p;refine cO func72 rfl ?_;by_cases f:LG neg m=e
 ·rw[if_pos f];refine rA ?_;refine AA jdg jdN O5 ?_;refine rA ?_;refine aA i ?_;refine aA1 f q ?_;refine Ac G ?_;exact kH
 ·rw[if_neg f];by_cases o:Dg (c,d) (a,b)<0
  ·by_cases j:m=0
   ·subst j;rw[if_neg O1]at g;refine rA ?_;refine AA jdg jdN O5 ?_;refine rA ?_;refine aA i ?_;refine aA1 f q ?_;refine aA1 o r ?_;refine Ac z ?_;simp -implicitDefEqProofs[jJ,-qA,-qB,Zd];refine AA jmJ jjH O5 ?_;refine rA ?_;refine aA x ?_;refine Ae g ?_;exact kH
   ·rw[if_neg j]at E;refine rA ?_;refine AA jdg jdN O5 ?_;refine rA ?_;refine aA i ?_;refine aA1 f q ?_;refine aA1 o r ?_;refine Ac z ?_;simp -implicitDefEqProofs[jJ,-qA,-qB,Zd,j];refine AA (Ah [0,0,2,7,15,31,31,0,191,511]) [.any [] [9] [⟨0,[],[9],[9],[]⟩,⟨0,[3],[9],[9],[]⟩,⟨0,[61],[9],[9],[]⟩,⟨0,[60,62],[9],[9],[]⟩,⟨0,[63],[9],[9],[]⟩,⟨0,[59],[9],[9],[]⟩,⟨0,[59],[9],[9],[]⟩,⟨1,[],[],[],[]⟩,⟨2,[9,64],[],[],[9]⟩],.one] O5 ?_;refine rA ?_;refine aA i ?_;refine aA E ?_;refine AA (Ah [0,1,0,0,12,28,0,127,255]) [.any [] [70] (AG [70] [[3],[66],[5],[4]]++[⟨4,[68,69],[],[],[]⟩]++[⟨0,[70],[],[],[]⟩]++[⟨0,[9],[],[70],[]⟩]),.one,.one] O5 ?_;refine rA ?_;refine Ae F ?_;exact kH
  ·rw[if_neg (λh=>o h.2)];by_cases t:m≠0/\(a=c/\b=d)/\Nk (LG neg e*e) (LG neg m*m)<0
   ·obtain⟨j,⟨rfl,rfl⟩,y⟩:=t;rw[if_pos ⟨j,⟨rfl,rfl⟩,y⟩];rw[if_pos ⟨O1,j,y⟩]at g;refine rA ?_;refine AA jdg jdN O5 ?_;refine rA ?_;refine aA i ?_;refine aA1 f q ?_;refine aA1 o r ?_;refine AA jmJ jjH O5 ?_;refine rA ?_;refine aA x ?_;simp only[decide_true,aG]at g;refine Ae g ?_;exact kH
   ·rw[if_neg t];rw[if_neg (λh=>t ⟨h.2.1,by simpa using h.1,h.2.2⟩)]at g;refine rA ?_;refine AA jdg jdN O5 ?_;refine rA ?_;refine aA i ?_;refine aA1 f q ?_;refine aA1 o r ?_;refine AA jmJ jjH O5 ?_;refine rA ?_;refine aA x ?_;refine Ae g ?_;exact kH
theorem jAR(a b c d e f g h:Int)(k:Dg (g,h) (a,b)<0)(l:Dg (e,f) (c,d)<0):
  CallsF prog 71 [.agg [.int .i64 a,.int .i64 b],.agg [.int .i64 c,.int .i64 d],.agg [.int .i64 e,.int .i64 f],.agg [.int .i64 g,.int .i64 h]] (M8 (a,b) (c,d) (e,f) (g,h)).res:=by
 have m:=PE g h a b;have o:=PE e f c d;have z:srt2 (a,b) (g,h)=((g,h),(a,b)):=by unfold srt2;rw[if_pos k]
 have E:srt2 (c,d) (e,f)=((e,f),(c,d)):=by unfold srt2;rw[if_pos l]
 have p:=PE e f g h;have v:=PE c d a b;have x:=Zh e f g h a b c d;have y:=Zh g h e f c d a b;unfold M8;rw[z,E];simp only[jdB];clear z E;refine cO func71 rfl ?_;by_cases i:Dg (e,f) (g,h)<0
 ·rw[if_pos (.inl i)];refine rA ?_;refine aA1 k m ?_;refine aA1 l o ?_;refine aA1 i p ?_;refine Ac x ?_;exact kH
 ·by_cases j:e=g/\f=h
  ·obtain⟨j,r⟩:=j;have w:(decide (g=e)&&decide (h=f))=true:=by simp[j,r]
   by_cases t:Dg (c,d) (a,b)<0
   ·rw[if_pos (.inr ⟨by rw[j,r],t⟩)];refine rA ?_;refine aA1 k m ?_;refine aA1 l o ?_;refine aA2 i w p ?_;refine aA1 t v ?_;refine Ac x ?_;exact kH
   ·rw[if_neg (λq=>q.elim i λq=>t q.2)];refine rA ?_;refine aA1 k m ?_;refine aA1 l o ?_;refine aA2 i w p ?_;refine aA1 t v ?_;refine Ac y ?_;exact kH
  ·have r:(decide (g=e)&&decide (h=f))=false:=by
    simp only[aD,decide_eq_false_iff_not];by_cases q:g=e
    ·exact .inr λF=>j ⟨q.symm,F.symm⟩
    ·exact .inl q
   rw[if_neg (λq=>q.elim i λq=>j (by simpa using q.1))];refine rA ?_;refine aA1 k m ?_;refine aA1 l o ?_;refine aA2 i r p ?_;refine Ac y ?_;exact kH
theorem jBI(a b c d e f g h:Int)(k:Dg (g,h) (a,b)<0)(l: ¬Dg (e,f) (c,d)<0):
  CallsF prog 71 [.agg [.int .i64 a,.int .i64 b],.agg [.int .i64 c,.int .i64 d],.agg [.int .i64 e,.int .i64 f],.agg [.int .i64 g,.int .i64 h]] (M8 (a,b) (c,d) (e,f) (g,h)).res:=by
 have m:=PE g h a b;have o:=PE e f c d;have z:srt2 (a,b) (g,h)=((g,h),(a,b)):=by unfold srt2;rw[if_pos k]
 have E:srt2 (c,d) (e,f)=((c,d),(e,f)):=by unfold srt2;rw[if_neg l]
 have p:=PE c d g h;have v:=PE e f a b;have x:=Zh c d g h a b e f;have y:=Zh g h c d e f a b;unfold M8;rw[z,E];simp only[jdB];clear z E;refine cO func71 rfl ?_;by_cases i:Dg (c,d) (g,h)<0
 ·rw[if_pos (.inl i)];refine rA ?_;refine aA1 k m ?_;refine aA1 l o ?_;refine aA1 i p ?_;refine Ac x ?_;exact kH
 ·by_cases j:c=g/\d=h
  ·obtain⟨j,r⟩:=j;have w:(decide (g=c)&&decide (h=d))=true:=by simp[j,r]
   by_cases t:Dg (e,f) (a,b)<0
   ·rw[if_pos (.inr ⟨by rw[j,r],t⟩)];refine rA ?_;refine aA1 k m ?_;refine aA1 l o ?_;refine aA2 i w p ?_;refine aA1 t v ?_;refine Ac x ?_;exact kH
   ·rw[if_neg (λq=>q.elim i λq=>t q.2)];refine rA ?_;refine aA1 k m ?_;refine aA1 l o ?_;refine aA2 i w p ?_;refine aA1 t v ?_;refine Ac y ?_;exact kH
  ·have r:(decide (g=c)&&decide (h=d))=false:=by
    simp only[aD,decide_eq_false_iff_not];by_cases q:g=c
    ·exact .inr λF=>j ⟨q.symm,F.symm⟩
    ·exact .inl q
   rw[if_neg (λq=>q.elim i λq=>j (by simpa using q.1))];refine rA ?_;refine aA1 k m ?_;refine aA1 l o ?_;refine aA2 i r p ?_;refine Ac y ?_;exact kH
theorem jus(a b c d e f g h:Int)(k: ¬Dg (g,h) (a,b)<0)(l:Dg (e,f) (c,d)<0):
  CallsF prog 71 [.agg [.int .i64 a,.int .i64 b],.agg [.int .i64 c,.int .i64 d],.agg [.int .i64 e,.int .i64 f],.agg [.int .i64 g,.int .i64 h]] (M8 (a,b) (c,d) (e,f) (g,h)).res:=by
 have m:=PE g h a b;have o:=PE e f c d;have z:srt2 (a,b) (g,h)=((a,b),(g,h)):=by unfold srt2;rw[if_neg k]
 have E:srt2 (c,d) (e,f)=((e,f),(c,d)):=by unfold srt2;rw[if_pos l]
 have p:=PE e f a b;have v:=PE c d g h;have x:=Zh e f a b g h c d;have y:=Zh a b e f c d g h;unfold M8;rw[z,E];simp only[jdB];clear z E;refine cO func71 rfl ?_;by_cases i:Dg (e,f) (a,b)<0
 ·rw[if_pos (.inl i)];refine rA ?_;refine aA1 k m ?_;refine aA1 l o ?_;refine aA1 i p ?_;refine Ac x ?_;exact kH
 ·by_cases j:e=a/\f=b
  ·obtain⟨j,r⟩:=j;have w:(decide (a=e)&&decide (b=f))=true:=by simp[j,r]
   by_cases t:Dg (c,d) (g,h)<0
   ·rw[if_pos (.inr ⟨by rw[j,r],t⟩)];refine rA ?_;refine aA1 k m ?_;refine aA1 l o ?_;refine aA2 i w p ?_;refine aA1 t v ?_;refine Ac x ?_;exact kH
   ·rw[if_neg (λq=>q.elim i λq=>t q.2)];refine rA ?_;refine aA1 k m ?_;refine aA1 l o ?_;refine aA2 i w p ?_;refine aA1 t v ?_;refine Ac y ?_;exact kH
  ·have r:(decide (a=e)&&decide (b=f))=false:=by
    simp only[aD,decide_eq_false_iff_not];by_cases q:a=e
    ·exact .inr λF=>j ⟨q.symm,F.symm⟩
    ·exact .inl q
   rw[if_neg (λq=>q.elim i λq=>j (by simpa using q.1))];refine rA ?_;refine aA1 k m ?_;refine aA1 l o ?_;refine aA2 i r p ?_;refine Ac y ?_;exact kH
theorem jyY(a b c d e f g h:Int)(k: ¬Dg (g,h) (a,b)<0)(l: ¬Dg (e,f) (c,d)<0):
  CallsF prog 71 [.agg [.int .i64 a,.int .i64 b],.agg [.int .i64 c,.int .i64 d],.agg [.int .i64 e,.int .i64 f],.agg [.int .i64 g,.int .i64 h]] (M8 (a,b) (c,d) (e,f) (g,h)).res:=by
 have m:=PE g h a b;have o:=PE e f c d;have z:srt2 (a,b) (g,h)=((a,b),(g,h)):=by unfold srt2;rw[if_neg k]
 have E:srt2 (c,d) (e,f)=((c,d),(e,f)):=by unfold srt2;rw[if_neg l]
 have p:=PE c d a b;have v:=PE e f g h;have x:=Zh c d a b g h e f;have y:=Zh a b c d e f g h;unfold M8;rw[z,E];simp only[jdB];clear z E;refine cO func71 rfl ?_;by_cases i:Dg (c,d) (a,b)<0
 ·rw[if_pos (.inl i)];refine rA ?_;refine aA1 k m ?_;refine aA1 l o ?_;refine aA1 i p ?_;refine Ac x ?_;exact kH
 ·by_cases j:c=a/\d=b
  ·obtain⟨j,r⟩:=j;have w:(decide (a=c)&&decide (b=d))=true:=by simp[j,r]
   by_cases t:Dg (e,f) (g,h)<0
   ·rw[if_pos (.inr ⟨by rw[j,r],t⟩)];refine rA ?_;refine aA1 k m ?_;refine aA1 l o ?_;refine aA2 i w p ?_;refine aA1 t v ?_;refine Ac x ?_;exact kH
   ·rw[if_neg (λq=>q.elim i λq=>t q.2)];refine rA ?_;refine aA1 k m ?_;refine aA1 l o ?_;refine aA2 i w p ?_;refine aA1 t v ?_;refine Ac y ?_;exact kH
  ·have r:(decide (a=c)&&decide (b=d))=false:=by
    simp only[aD,decide_eq_false_iff_not];by_cases q:a=c
    ·exact .inr λF=>j ⟨q.symm,F.symm⟩
    ·exact .inl q
   rw[if_neg (λq=>q.elim i λq=>j (by simpa using q.1))];refine rA ?_;refine aA1 k m ?_;refine aA1 l o ?_;refine aA2 i r p ?_;refine Ac y ?_;exact kH
theorem jyW(a b c d e f g h:Int):
  CallsF prog 71 [.agg [.int .i64 a,.int .i64 b],.agg [.int .i64 c,.int .i64 d],.agg [.int .i64 e,.int .i64 f],.agg [.int .i64 g,.int .i64 h]] (M8 (a,b) (c,d) (e,f) (g,h)).res:=by
 by_cases j:Dg (g,h) (a,b)<0
 ·by_cases i:Dg (e,f) (c,d)<0
  ·exact jAR a b c d e f g h j i
  ·exact jBI a b c d e f g h j i
 ·by_cases i:Dg (e,f) (c,d)<0
  ·exact jus a b c d e f g h j i
  ·exact jyY a b c d e f g h j i
def jmf:List (List Nat):=(Ah [0,1,3,7,15,31,63,127,255,127,1023,2047,4095,8191])
@[simp]def jjS:List Seg:=[.one,.one,.one,.one,.one,.one,.one,.any [] [] (Aq [[2,11],[12,11],[3,11]]),.one,.one,.one,.one]
theorem jmv{k:Int}(h:arity k≠0):k=1\/k=2\/k=3\/k=4\/k=5\/k=6\/k=7\/k=8\/k=9:=by
 unfold arity at h;by_cases a:k=1\/k=5
 ·omega
 rw[if_neg a]at h;by_cases b:k=2\/k=3\/k=4\/k=6\/k=9
 ·omega
 rw[if_neg b]at h;by_cases e:k=7
 ·omega
 rw[if_neg e]at h;by_cases f:k=8
 ·omega
 rw[if_neg f]at h;exact absurd rfl h
theorem jf7(f:Fct)(z:f.Mild):CallsF prog 33 [.agg f.ds] (normF f).res:=by
 have o:=XP f z;have M:=λh=>(Fct.Rt.mk h z).parts;unfold normF;obtain⟨k,l,n,m,d⟩:=f;obtain⟨la,ld,N,P,ln⟩:=z;simp only[Fct.ds]at*;cases h:Eb ⟨k,l,n,m,d⟩
 ·rw[h]at o;refine oA func33 ?_;refine Ac o ?_;simp -implicitDefEqProofs[jJ,-qA,-qB,Fct.res,Fct.zero]
 ·rw[h]at o;obtain⟨q,j,i,p⟩:=M h;clear M h;rw[if_pos rfl];unfold normG;simp only;by_cases L:k=1\/k=6\/k=8
  ·have r:=jtk l ln;rw[if_neg O,if_neg O,if_neg O,if_neg O,if_neg O];clear q j i p;refine oA func33 ?_;refine Ac o ?_;rcases L with rfl|rfl|rfl<;>refine rA ?_<;>refine AA (Ah [0,1,0,4,15,31]) [.any [] [] (Aq [[1],[17],[3],[19]]),.one,.one] O5 ?_<;>refine rA ?_<;>refine Ae r ?_<;>exact kH
  by_cases E:k=5
  ·subst E;obtain⟨a,b,c,rfl⟩:=RA (by simpa [arity]using j);rw[if_pos rfl];have r:=Ut b c;clear q j i p;refine oA func33 ?_;refine aA o ?_;refine AA (Ah [0,1,3,0,8,24,63,0,255]) [.any [] [4] [⟨0,[3],[4],[4],[]⟩,⟨0,[24],[4],[4],[]⟩,⟨0,[25],[4],[4],[]⟩,⟨0,[3],[4],[4],[]⟩,⟨0,[27],[4],[4],[]⟩,⟨0,[28],[4],[4],[]⟩,⟨0,[26,29],[4],[4],[]⟩,⟨1,[],[],[],[]⟩],.one] O5 ?_;refine rD ?_;refine aA r ?_;refine AA (Ah [0,1,0,4,12,0,32,0,128,508,1023,2047]) [.any [] [40] ([⟨0,[1],[40],[40],[]⟩,⟨0,[31],[40],[40],[]⟩]++AG [40] [[3],[33],[34],[4],[36],[4],[38]]++[⟨1,[35,37,39],[],[],[]⟩]),.one,.one] O5 ?_;simp -implicitDefEqProofs[jJ,-qA,-qB,i64,Fct.res];rfl
  rw[if_neg E];by_cases F:k=7
  ·subst F;obtain⟨a,b,c,e,t,v,w,x,rfl⟩:=VH (by simpa [arity]using j);rw[if_neg O,if_neg O,if_neg O,if_pos rfl];have I:=Ut a b;have J:=Ut c e;have r3:=Ut t v;have r4:=Ut w x;have r5:=jyW (lo a b) (hi a b) (lo c e) (hi c e) (lo t v) (hi t v) (lo w x) (hi w x);simp only[AQ];clear q j i p;refine oA func33 ?_;refine aA o ?_;refine AA (Ah [0,1,3,0,8,24,63,0,128,384,0,1024,3072,8191,0,16384,49152,0,131072,393216,1048575,0,2097152,6291456,0,16777216,50331648,134217727,268435455,536870911]) [.any [] [] (Aq [[3],[44],[45],[3],[47],[48],[46,49],[3],[51],[52],[3],[54],[55],[53,56],[3],[58],[59],[3],[61],[62],[60,63],[3],[65],[66],[3],[68],[69]]),.one,.one,.one] O5 ?_;refine rD ?_;refine aA I ?_;refine aA J ?_;refine aA r3 ?_;refine aA r4 ?_;refine Ac r5 ?_;exact kH
  have K:=jmv q;have y:l.length=4:=by
   rw[j];rcases K with rfl|rfl|rfl|rfl|rfl|rfl|rfl|rfl|rfl<;>simp[arity]at*
  obtain⟨a,b,c,e,rfl⟩:=KQ y;have S:=TY (i a O1) (i b O1);have T:=Tl (i a O1) (i b O1);have W:=TY (i c O1) (i e O1);have X:=Tl (i c O1) (i e O1);have I:=Ut a b;have J:=Ut c e;have G: ∀R:Fct,CallsF prog 72 [.agg [.int .i64 k,AT [a,b,c,e],.bool n,Ad m,Ad d],.agg [.int .i64 (lo a b),.int .i64 (hi a b)],.agg [.int .i64 (lo c e),.int .i64 (hi c e)]] R.res->
    CallsF prog 33 [.agg [.int .i64 k,AT [a,b,c,e],.bool n,Ad m,Ad d]] R.res:=λR hR=>by
   have j1: ¬k=1:=O;have j6: ¬k=6:=O;have j8: ¬k=8:=O;clear q j i p K L;refine oA func33 ?_;refine Ac o ?_;simp -implicitDefEqProofs[jJ,-qA,-qB,j1,j6,j8,E,F];refine AA (Ah [0,0,2,6,0,16,48,126,0,256,768,0,2048,6144,16382,32767,65535]) [.any [] [] (Aq [[1],[3],[74],[75],[3],[77],[78],[76,79],[3],[81],[82],[3],[84],[85],[83,86]]),.one,.one] O5 ?_;refine rD ?_;refine aA I ?_;refine aA J ?_;refine Ac hR ?_;exact kH
  refine G _ ?_;rw[if_neg F];simp only[AQ];by_cases Q:k=2
  ·subst Q;rw[if_pos rfl];exact jxz _ n m d _ _ _ _ S T W X
  rw[if_neg Q];by_cases H:k=3\/k=4
  ·rw[if_pos H];exact jrw k _ n m d _ _ _ _ H
  rw[if_neg H];have q9:k=9:=O;subst q9;rw[if_pos rfl];rw[if_pos rfl]at p;obtain⟨Z,e2,Y,g,_⟩:=Cz p N P;have r:=jxB [a,b,c,e] n (val m) (val d) (lo a b) (hi a b) (lo c e) (hi c e) (N.ltW la) (P.ltW ld) Y g;rwa [<-Z,<-e2]at r
theorem jtj(f g:Fct)(o:f.Mild)(p:g.Mild):CallsF prog 59 [.agg f.ds,.agg g.ds] (.u (.c (.d (.bool (LZ f g))))):=by
 have a:=XP f o;have e:=XP g p;have i:=jf7 f o;have j:=jf7 g p;have k:=λh=>Ys (f:=f) ⟨h,o⟩;have l:=λh=>Ys (f:=g) ⟨h,p⟩;unfold normF at i j;unfold LZ;cases b:Eb f
 ·rw[b]at a;simp only[Fct.ds]at*;refine oA func59 ?_;refine AA jmf jjS O5 ?_;refine rA ?_;refine Ac a ?_;exact kA
 ·cases m:Eb g
  ·rw[b]at a;rw[m]at e;simp only[Fct.ds]at*;refine oA func59 ?_;refine AA jmf jjS O5 ?_;refine rA ?_;refine aA a ?_;refine Ac e ?_;exact kA
  ·have k:=k b;have l:=l m;have q:=jkj (normG f) (normG g) k.mild l.mild k.val l.val;rw[b]at a i;rw[m]at e j;rw[if_pos rfl]at i j;generalize normG f=x at*;generalize normG g=y at*;simp only[Fct.ds,Fct.res]at*;refine oA func59 ?_;refine AA jmf jjS O5 ?_;refine rA ?_;refine aA a ?_;refine aA e ?_;refine aA i ?_;refine aA j ?_;refine Ac q ?_;exact kA
def jgW:List (List Nat):=(Ah [0,1,3,0,8,24,63,0,128,384,0,1024,3072,8191,0,0,65535,131071])
@[simp]def jhB:List Seg:=[.any [] [4,5] [⟨0,[3],[4,5],[4,5],[]⟩,⟨0,[68],[4,5],[4,5],[]⟩,⟨0,[69],[4,5],[4,5],[]⟩,⟨0,[3],[4,5],[4,5],[]⟩,⟨0,[71],[4,5],[4,5],[]⟩,⟨0,[72],[4,5],[4,5],[]⟩,⟨0,[70,73],[4,5],[4,5],[]⟩,⟨0,[3],[4,5],[4,5],[]⟩,⟨0,[75],[4,5],[4,5],[]⟩,⟨0,[76],[4,5],[4,5],[]⟩,⟨0,[3],[4,5],[4,5],[]⟩,⟨0,[78],[4,5],[4,5],[]⟩,⟨0,[79],[4,5],[4,5],[]⟩,⟨0,[77,80],[4,5],[4,5],[]⟩,⟨1,[],[5],[5],[]⟩,⟨1,[],[4],[4],[]⟩],.one,.one]
theorem jo5(l:List Int):l.Nodup↔ ∀p q (b:q<l.length) (a:p<q),l[p]≠l[q]:=by
 unfold List.Nodup;rw[List.pairwise_iff_getElem];exact⟨λh p q b a=>h p q O b a,λh p q _ b a=>h p q b a⟩
theorem jxE(l:List Int)(v:l.length<=1099511627776):CallsF prog 73 [.c (AT l)] (.u (.c (.d (.bool (!decide l.Nodup))))):=by
 refine oA func73 ?_;refine AV (λi:Nat=>⟨[(3,vI .i64 i),(0,vC (.d (AT l)))],[]⟩) (λi=>i<=l.length/\ ∀p q (f:q<l.length) (j:p<q),p<i->l[p]≠l[q]) (λi=>l.length - i) 0 O1 O1 ?_;rintro i ⟨t,m⟩;by_cases h:i<l.length
 ·refine rA1 h ?_;refine⟨O,?_⟩;refine AV (λk:Nat=>⟨[(4,vI .i64 k),(3,vI .i64 i),(0,vC (.d (AT l)))],[]⟩) (λk=>i<k/\k<=l.length/\ ∀q (f:q<l.length) (j:i<q),q<k->l[i]≠l[q]) (λk=>l.length - k) (i+1) O1 (And.intro (Nat.lt_succ_self i) (And.intro h λq f a b=>absurd b O)) ?_;rintro k ⟨r,w,o⟩;by_cases g:k<l.length
  ·refine rA1 g ?_;refine AA (Ah [0,0,3,7,0,0,48,112,255]) [.any [] [] (Aq [[0],[3],[19,20],[21],[0],[4],[23,24],[25]]),.one] O5 ?_;refine rD2 h g ?_;by_cases e:l[i]=l[k]
   ·refine rA1 e ?_;rw[jo5];exact λq=>q i k g r e
   ·refine rA1 e ?_;exact⟨O,⟨O,O,λq f a b=>if c:q=k then by subst c;exact e else o q f a O⟩,O⟩
  ·have:k=l.length:=O;subst this;refine rA ?_;exact⟨O,⟨O,λp q f j a=>if c:p=i then by subst c;exact o q f j f else m p q f j O⟩,O⟩
 ·have:i=l.length:=O;subst this;refine rA ?_;rw[jo5];exact λp q f j=>m p q f j O
theorem jyJ(a b e d1 f g h i:Int):CallsF prog 74 [.agg [.int .i64 a,.int .i64 b],.agg [.int .i64 e,.int .i64 d1],.agg [.int .i64 f,.int .i64 g],.agg [.int .i64 h,.int .i64 i]]
  (.u (.c (.d (.bool (jeb (a,b) (e,d1) (f,g) (h,i)))))):=by
 unfold jeb;refine oA func74 ?_;by_cases j:a=b
 ·exact kA1 j
 by_cases k:e=d1
 ·exact kA2 j k
 by_cases l:f=g
 ·simp -implicitDefEqProofs[jJ,-qA,-qB,j,k,l]
 by_cases m:h=i
 ·simp -implicitDefEqProofs[jJ,-qA,-qB,j,k,l,m]
 simp -implicitDefEqProofs[jJ,-qA,-qB,j,k,l,m];clear j k l m;have E: ∀x y:Int,(x=y)=(y=x):=λx y=>propext eq_comm;simp only[E e a,E d1 b,E f h,E g i,E e h,E d1 i,E f a,E g b];clear E;rcases Classical.propComplete (a=e)with x1|x1<;>rcases Classical.propComplete (b=d1)with x2|x2<;>
  rcases Classical.propComplete (h=f)with x3|x3<;>rcases Classical.propComplete (i=g)with x4|x4<;>
  simp only[x1,x2,x3,x4,decide_true,decide_false,aG,Bool.and_false,Bool.false_or,Bool.true_or,true_and,and_true,false_and,and_false,true_or,false_or,not_true_eq_false,not_false_eq_true,true_implies,false_implies,implies_true]<;>rcases Classical.propComplete (a=f)with x5|x5<;>rcases Classical.propComplete (b=g)with x6|x6<;>
  rcases Classical.propComplete (h=e)with x7|x7<;>rcases Classical.propComplete (i=d1)with x8|x8<;>
  simp[x5,x6,x7,x8]
theorem jyR(f:Fct)(S:f.Mild):CallsF prog 35 [.agg f.ds] (.u (.c (.d (.bool (RQ f))))):=by
 have i:=XP f S;have k2:=λh=>(Fct.Rt.mk h S).parts;unfold RQ;obtain⟨k,l,n,m,d⟩:=f;obtain⟨la,ld,J,K,ln⟩:=S;simp only[Fct.ds]at*;cases h:Eb ⟨k,l,n,m,d⟩
 ·rw[h]at i;refine oA func35 ?_;refine Ac i ?_;exact kA
 ·rw[h]at i;obtain⟨w,o,G,v⟩:=k2 h;clear k2 h;unfold jmm;simp only;rw[Bool.true_and];by_cases I:k=1\/k=6\/k=8
  ·rw[if_pos I];have r:=jxE l ln;clear w o G v;refine oA func35 ?_;refine Ac i ?_;rcases I with rfl|rfl|rfl<;>refine rA ?_<;>refine Ac r ?_<;>exact kA
  rw[if_neg I];by_cases W:k=5
  ·subst W;obtain⟨a,b,c,rfl⟩:=RA (by simpa [arity]using o);rw[if_pos rfl];clear w o G v;refine oA func35 ?_;refine aA i ?_;refine AA (Ah [0,1,3,0,8,24,63,127,255,511,1023,255,2303,6399,16383,32767,65535]) [.any [] [] (Aq [[3],[21],[22],[3],[24],[25]]),.one,.one,.any [] [] (Aq [[3,28],[29,28],[30,28],[3,28],[32,28],[33,28]]),.one,.one,.one] O5 ?_;by_cases j:a=b<;>simp -implicitDefEqProofs[jJ,-qA,-qB,j,i64]
  rw[if_neg W];by_cases Y:k=7
  ·subst Y;obtain⟨a,b,c,e,L,M,N,P,rfl⟩:=VH (by simpa [arity]using o);rw[if_neg O,if_pos rfl];have E:=Ut a b;have F:=Ut c e;have r3:=Ut L M;have r4:=Ut N P;have r5:=jyJ (lo a b) (hi a b) (lo c e) (hi c e) (lo L M) (hi L M) (lo N P) (hi N P);simp only[AQ];clear w o G v;refine oA func35 ?_;refine aA i ?_;refine AA (Ah [0,1,3,0,8,24,63,0,128,384,0,1024,3072,8191,0,16384,49152,0,131072,393216,1048575,0,2097152,6291456,0,16777216,50331648,134217727,268435455,536870911]) [.any [] [] (Aq [[3],[39],[40],[3],[42],[43],[41,44],[3],[46],[47],[3],[49],[50],[48,51],[3],[53],[54],[3],[56],[57],[55,58],[3],[60],[61],[3],[63],[64]]),.one,.one,.one] O5 ?_;refine rD ?_;refine aA E ?_;refine aA F ?_;refine aA r3 ?_;refine aA r4 ?_;refine Ac r5 ?_;exact kA
  have T:=jmv w;have Q:l.length=4:=by
   rw[o];rcases T with rfl|rfl|rfl|rfl|rfl|rfl|rfl|rfl|rfl<;>simp[arity]at*
  obtain⟨a,b,c,e,rfl⟩:=KQ Q;have E:=Ut a b;have F:=Ut c e;by_cases X:k=9
  ·subst X;rw[if_pos rfl]at v ⊢;obtain⟨e1,e2,d0,g,_⟩:=Cz v J K;have k4:=joa n (val m) (val d) (J.ltW la) (K.ltW ld) d0 g;have k5:=jcg 1 O;have k7:=jjc n (val m) (val d) (by have:=J.ltW la;omega) (by have:=K.ltW ld;omega) d0 g;rw[<-e1,<-e2]at k4 k7;unfold jgK AQ;simp only;clear w o G v e1 e2;generalize lo c e=x at*;generalize hi c e=y at*;generalize lo a b=z at*;generalize hi a b=t at*;simp only[Prod.mk.injEq];refine oA func35 ?_;refine aA i ?_;refine AA jgW jhB O5 ?_;refine rD ?_;refine aA E ?_;refine aA F ?_;refine AA (Ah [0,0,3,7,15,31,15,127,255,511,1023,2047,1023,5119,16383,32767,65535,131071,65535,327679,1048575,2097151,4194303,8388607,16777215,33554431,67108863,134217727,268435455,536870911]) [.any [] [] (Aq [[4],[5]]),.one,.one,.any [] [] (Aq [[1,139],[140,139],[139]]),.one,.one,.one,.any [] [] (Aq [[4,145],[146,145],[4,145],[148,145]]),.one,.one,.any [] [] (Aq [[5,151],[152,151],[5,151],[154,151]]),.one,.one,.one,.one,.one,.one,.one,.one,.one,.one] O5 ?_;by_cases p:z=x/\t=y
   ·obtain⟨rfl,rfl⟩:=p;refine rA ?_;refine aA k5 ?_;refine Ac k4 ?_;by_cases q:LG n (val m)=val d
    ·exact kA1 q
    ·refine rA1 q ?_;by_cases H:z=t
     ·exact kA1 H
     ·exact kA1 H
   ·have Z:(decide (z=x)&&decide (t=y))=false:=by simpa using p
    refine rA1 Z ?_;by_cases H:z=t
    ·subst H;refine rA ?_;by_cases j4:x=y
     ·exact kA1 j4
     ·refine rA1 j4 ?_;refine Ac k7 ?_;simp -implicitDefEqProofs[jJ,-qA,-qB,Zd]
    ·exact kA1 H
  rw[if_neg X,if_neg Y];have T:k=2\/k=3\/k=4:=O;simp only;unfold AQ;clear w o G v I W X Y;generalize lo c e=x at*;generalize hi c e=y at*;generalize lo a b=z at*;generalize hi a b=t at*;clear la ld J K ln;simp only[Prod.mk.injEq];rcases T with rfl|rfl|rfl
  ·refine oA func35 ?_;refine aA i ?_;refine AA jgW jhB O5 ?_;refine rD ?_;refine aA E ?_;refine aA F ?_;by_cases p:z=t<;>by_cases q:x=y<;>simp[p,q]
  ·refine oA func35 ?_;refine aA i ?_;refine AA jgW jhB O5 ?_;refine rD ?_;refine aA E ?_;refine aA F ?_;by_cases p:z=t<;>by_cases q:x=y<;>simp[p,q]
  ·refine oA func35 ?_;refine aA i ?_;refine AA jgW jhB O5 ?_;refine rD ?_;refine aA E ?_;refine aA F ?_;by_cases p:z=t<;>by_cases q:x=y<;>simp[p,q]<;>exact λa b=>⟨a,b⟩
end Go.Va
