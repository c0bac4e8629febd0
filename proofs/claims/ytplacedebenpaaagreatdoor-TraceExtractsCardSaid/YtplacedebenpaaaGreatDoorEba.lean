/- a part of the proof -/
import Derived.Test.YtplacedebenpaaaGreatDoorEaz
set_option linter.all false
set_option maxHeartbeats 4000000
set_option maxRecDepth 10000
namespace Go.Va
open Int renaming natCast_add → qA, natCast_mul → qB
open Go.Proofs Go.Proofs.Tryz
def jfl:List (List Nat):=(Ah [0,1,3,7,0,16,48,112,255,511])
@[simp]def jfs:List Seg:=[.any [] [] (Aq [[7],[30],[31],[32],[7],[34],[35],[36]]),.one,.one]
def srt2(p q:Int×Int):(Int×Int)×(Int×Int):=if Dg q p<0 then (q,p) else (p,q)
def M8(u v w z:Int×Int):Fct:=
 if It [Dg (srt2 v w).1 (srt2 u z).1,Dg (srt2 v w).2 (srt2 u z).2]<0 then ⟨7,[(srt2 v w).1.1,(srt2 v w).1.2,(srt2 u z).1.1,(srt2 u z).1.2,(srt2 u z).2.1,(srt2 u z).2.2,(srt2 v w).2.1,(srt2 v w).2.2],false,[],[]⟩
 else ⟨7,[(srt2 u z).1.1,(srt2 u z).1.2,(srt2 v w).1.1,(srt2 v w).1.2,(srt2 v w).2.1,(srt2 v w).2.2,(srt2 u z).2.1,(srt2 u z).2.2],false,[],[]⟩
def Vr(p:(Int×Int)×(Int×Int)):List C:=[.d (.int .i64 p.1.1),.d (.int .i64 p.1.2),.d (.int .i64 p.2.1),.d (.int .i64 p.2.2)]
variable{α:Type}
theorem jAj(a b c d e f g h:Int)(neg:Bool)(t v:List Nat):
  CallsF prog 169 [.agg [.int .i64 7,AT [a,b,c,d,e,f,g,h],.bool neg,Ad t,Ad v]] (M8 (AQ a b) (AQ c d) (AQ e f) (AQ g h)).res:=by
 refine cO func169 rfl ?_;have N:=jrn 7 a b c d e f g h neg t v;unfold M8 AQ;generalize AT [a,b,c,d,e,f,g,h]=l at*;generalize lo a b=o at*;generalize hi a b=p at*;generalize lo c d=j at*;generalize hi c d=d1 at*;generalize lo e f=k at*;generalize hi e f=m at*;generalize lo g h=q at*;generalize hi g h=r at*;clear a b c d e f g h;have K:=ja4 q r o p;have L:=ja4 k m j d1;have I:srt2 (o,p) (q,r)=if Dg (q,r) (o,p)<0 then ((q,r),(o,p)) else ((o,p),(q,r)):=rfl;have J:srt2 (j,d1) (k,m)=if Dg (k,m) (j,d1)<0 then ((k,m),(j,d1)) else ((j,d1),(k,m)):=rfl;generalize srt2 (o,p) (q,r)=P at*;generalize srt2 (j,d1) (k,m)=M at*;refine rA ?_;refine aA N ?_;refine AA (Ah [0,1,3,0,8,24,63,0,128,384,0,1024,3072,8064,0,0,57343,131071]) [.any [] [4,5] [⟨0,[3],[4,5],[4,5],[]⟩,⟨0,[10],[4,5],[4,5],[]⟩,⟨0,[11],[4,5],[4,5],[]⟩,⟨0,[3],[4,5],[4,5],[]⟩,⟨0,[13],[4,5],[4,5],[]⟩,⟨0,[14],[4,5],[4,5],[]⟩,⟨0,[12,15],[4,5],[4,5],[]⟩,⟨0,[3],[4,5],[4,5],[]⟩,⟨0,[17],[4,5],[4,5],[]⟩,⟨0,[18],[4,5],[4,5],[]⟩,⟨0,[3],[4,5],[4,5],[]⟩,⟨0,[20],[4,5],[4,5],[]⟩,⟨0,[21],[4,5],[4,5],[]⟩,⟨0,[19,22],[4,5],[4,5],[]⟩,⟨1,[],[5],[5],[]⟩,⟨1,[],[4],[4],[]⟩,⟨2,[4,16],[],[],[4]⟩],.one] O5 ?_;refine rA ?_;refine AV (λi:Nat=>⟨[(26,vI .i64 i),(25,vI .i64 2),(24,vC (.sl 24 0 2)),(5,vC (.ptr 5 0)),(4,vC (.ptr 4 0)),(2,vC (.ptr 2 0)),(1,vC (.ptr 1 0))],
  [(24,.box [.ptr 4 0,.ptr 5 0]),(5,.box (match i with|0=>Vr ((j,d1),(k,m))|1=>Vr ((j,d1),(k,m))|_=>Vr M)),(4,.box (match i with|0=>Vr ((o,p),(q,r))|_=>Vr P)),
   (2,.box [.d (.int .i64 0),.nl,.d (.bool false),.nl,.nl]),(1,.box [.d (.int .i64 7),.d l,.d (.bool neg),.d (Ad t),.d (Ad v)])]⟩)
  (λi=>i<=2) (λi=>2 - i) 0 (by simp[Vr]) O1 ?_
 rintro i hi
 match i,hi with
 |0,_=>
  by_cases h:Dg (q,r) (o,p)<0
  ·rw[if_pos h]at I;subst I;simp -implicitDefEqProofs[jJ,-qA,-qB,Vr];refine AA jfl jfs O5 ?_;refine rA ?_;refine aA1 h K ?_;refine AA (Ah [0,0,0,4,12,28,0,64,192,448,1,2045,4093,2,16383,32767]) [.any [] [] [⟨0,[7],[],[],[]⟩,⟨0,[7],[4],[],[]⟩,⟨0,[7],[],[],[]⟩,⟨0,[42],[],[],[]⟩,⟨0,[43],[],[],[]⟩,⟨0,[44],[],[],[]⟩,⟨0,[7],[],[],[]⟩,⟨0,[46],[],[],[]⟩,⟨0,[47],[],[],[]⟩,⟨0,[48],[],[],[]⟩,⟨0,[40],[],[],[]⟩,⟨0,[50],[],[],[]⟩,⟨2,[45,51],[],[],[4]⟩,⟨0,[41],[4],[],[]⟩],.one,.one] O5 ?_;refine rA ?_;exact⟨1,⟨rfl,rfl,rfl⟩,O,O⟩
  ·rw[if_neg h]at I;subst I;simp -implicitDefEqProofs[jJ,-qA,-qB,Vr];refine AA jfl jfs O5 ?_;refine rA ?_;refine aA1 h K ?_;exact⟨1,⟨rfl,rfl,rfl⟩,O,O⟩
 |1,_=>
  by_cases h:Dg (k,m) (j,d1)<0
  ·rw[if_pos h]at J;subst J;simp -implicitDefEqProofs[jJ,-qA,-qB,Vr];refine AA jfl jfs O5 ?_;refine rA ?_;refine aA1 h L ?_;refine AA (Ah [0,0,0,4,12,28,0,64,192,448,1,2045,4093,2,16383,32767]) [.any [] [] [⟨0,[7],[],[],[]⟩,⟨0,[7],[5],[],[]⟩,⟨0,[7],[],[],[]⟩,⟨0,[42],[],[],[]⟩,⟨0,[43],[],[],[]⟩,⟨0,[44],[],[],[]⟩,⟨0,[7],[],[],[]⟩,⟨0,[46],[],[],[]⟩,⟨0,[47],[],[],[]⟩,⟨0,[48],[],[],[]⟩,⟨0,[40],[],[],[]⟩,⟨0,[50],[],[],[]⟩,⟨2,[45,51],[],[],[5]⟩,⟨0,[41],[5],[],[]⟩],.one,.one] O5 ?_;refine rA ?_;exact⟨2,⟨rfl,rfl,rfl⟩,O,O⟩
  ·rw[if_neg h]at J;subst J;simp -implicitDefEqProofs[jJ,-qA,-qB,Vr];refine AA jfl jfs O5 ?_;refine rA ?_;refine aA1 h L ?_;exact⟨2,⟨rfl,rfl,rfl⟩,O,O⟩
 |2,_=>
  obtain⟨⟨E,F⟩,⟨G,H⟩⟩:=P;obtain⟨⟨w,x⟩,⟨y,z⟩⟩:=M;clear I J K L N;have W:=ja4 w x E F;have X:=ja4 y z G H;have T:CallsF prog 56 [.c (.slice 2 [.int .i64 (Dg (w,x) (E,F)),.int .i64 (Dg (y,z) (G,H))])] _:=jc4 [Dg (w,x) (E,F),Dg (y,z) (G,H)] O1;have Q:=jp7 7 w x E F G H y z false [] [];have S:=jp7 7 E F w x y z G H false [] [];simp -implicitDefEqProofs[jJ,-qA,-qB,Vr];refine AA (Ah [0,1,0,4,15,0,32,0,128,511,1023,2047,4095]) [.any [] [] (Aq [[5],[55],[4],[57],[56,58],[5],[60],[4],[62]]),.one,.one,.one,.one] O5 ?_;refine rA ?_;refine aA W ?_;refine aA X ?_;refine Ac T ?_;by_cases h:It [Dg (w,x) (E,F),Dg (y,z) (G,H)]<0
  ·refine rA1 h ?_;refine Ac Q ?_;exact kH
  ·refine rA1 h ?_;refine Ac S ?_;exact kH
def jfC(k:Int):FuncId:=if k=5 then 165 else if k=2 then 166 else if k=3\/k=4 then 167 else if k=9 then 168 else if k=7 then 169 else 170
theorem jtt(k:Int):CallsF prog 93 [.c (.int .i64 k)] (.u (.agg [.d (.fn (jfC k) [])])):=by
 refine cO func93 rfl ?_;unfold jfC;by_cases f:k=5
 ·exact kA1 f
 by_cases a:k=2
 ·exact kA1 a
 by_cases b:k=3
 ·exact kA1 b
 by_cases e:k=4
 ·exact kA1 e
 by_cases h:k=9
 ·exact kA1 h
 by_cases g:k=7
 ·exact kA1 g
 simp -implicitDefEqProofs[jJ,-qA,-qB,f,a,b,e,h,g]
def Fct.zero:Fct:=⟨0,[],false,[],[]⟩
def normG(f:Fct):Fct:=
 if f.kind=5 then (match f.args with|[a,b,c]=>⟨5,[a,lo b c,hi b c],false,[],[]⟩|_=> .zero)
 else if f.kind=2 then (match f.args with|[a,b,c,d]=>TZ (AQ a b) (AQ c d)|_=> .zero)
 else if f.kind=3\/f.kind=4 then (match f.args with|[a,b,c,d]=>MK f.kind (AQ a b) (AQ c d)|_=> .zero)
 else if f.kind=9 then (match f.args with|[a,b,c,d]=>O7 f.neg (val f.abs) (val f.den) (AQ a b) (AQ c d)|_=> .zero)
 else if f.kind=7 then (match f.args with|[a,b,c,d,e,f,g,h]=>M8 (AQ a b) (AQ c d) (AQ e f) (AQ g h)|_=> .zero)
 else ⟨f.kind,LI f.args,false,[],[]⟩
def normF(f:Fct):Fct:=if Eb f=true then normG f else .zero
theorem RA{l:List α}(h:l.length=3): ∃a b c,l=[a,b,c]:=by
 match l,h with
 |[a,b,c],_=>exact⟨a,b,c,rfl⟩
theorem KQ{l:List α}(h:l.length=4): ∃a b c d,l=[a,b,c,d]:=by
 match l,h with
 |[a,b,c,d],_=>exact⟨a,b,c,d,rfl⟩
theorem VH{l:List α}(h:l.length=8): ∃a b c d e f g i,l=[a,b,c,d,e,f,g,i]:=by
 match l,h with
 |[a,b,c,d,e,f,g,i],_=>exact⟨a,b,c,d,e,f,g,i,rfl⟩
theorem jtZ(f:Fct)(h:f.Rt):CallsF prog (jfC f.kind) [.agg f.ds] (normG f).res:=by
 obtain⟨J,i,q,v⟩:=h.parts;obtain⟨K,L,w,x,M⟩:=h.mild;obtain⟨k,l,n,m,d⟩:=f;simp only[Fct.ds]at*;unfold jfC normG;simp only;by_cases j:k=5
 ·subst j;obtain⟨a,b,c,rfl⟩:=RA (by simpa [arity]using i);simp only[if_true];exact jwz 5 a b c n m d
 by_cases o:k=2
 ·subst o;obtain⟨a,b,c,e,rfl⟩:=KQ (by simpa [arity]using i);simp only[if_true];rw[if_neg O,if_neg O];exact jwu a b c e n m d (q a O1) (q b O1) (q c O1) (q e O1)
 by_cases p:k=3\/k=4
 ·obtain⟨a,b,c,e,rfl⟩:=KQ (l:=l) (by rcases p with rfl|rfl<;>simpa [arity]using i);rw[if_neg j,if_neg o,if_pos p,if_neg j,if_neg o,if_pos p];exact jjv k a b c e n m d
 by_cases r:k=9
 ·subst r;obtain⟨a,b,c,e,rfl⟩:=KQ (by simpa [arity]using i);rw[if_pos rfl]at v;obtain⟨H,I,F,g,_⟩:=Cz v w x;rw[if_neg O,if_neg O,if_neg O,if_pos rfl,if_neg O,if_neg O,if_neg O,if_pos rfl];simp only;have:=jBi a b c e n (val m) (val d) (w.ltW K) (x.ltW L) F g;rwa [<-H,<-I]at this
 by_cases t:k=7
 ·subst t;obtain⟨a,b,c,e,y,z,E,G,rfl⟩:=VH (by simpa [arity]using i);rw[if_neg O,if_neg O,if_neg O,if_neg O,if_pos rfl,if_neg O,if_neg O,if_neg O,if_neg O,if_pos rfl];exact jAj a b c e y z E G n m d
 ·rw[if_neg j,if_neg o,if_neg p,if_neg r,if_neg t,if_neg j,if_neg o,if_neg p,if_neg r,if_neg t];exact jms k l n m d (λh=>J (by rw[<-i,h];rfl)) M
theorem jb0(f:Fct)(b:f.Mild):CallsF prog 52 [.agg f.ds] (normF f).res:=by
 refine cO func52 rfl ?_;have a:=je9 f b;have i:=jtt f.kind;have e:=λh=>jtZ f ⟨h,b⟩;unfold normF;clear b;obtain⟨k,l,n,m,d⟩:=f;simp only[Fct.ds]at*;cases h:Eb ⟨k,l,n,m,d⟩
 ·rw[h]at a;refine rA ?_;refine Ac a ?_;simp -implicitDefEqProofs[jJ,-qA,-qB,Fct.res,Fct.zero];exact⟨rfl,rfl⟩
 ·rw[h]at a;have e:=e h;generalize normG ⟨k,l,n,m,d⟩=g at*;refine rA ?_;refine aA a ?_;refine AA (Ah [0,1,3,7,0,31,63]) [.any [] [] (Aq [[1],[7],[8],[9],[1]]),.one,.one] O5 ?_;refine rA ?_;refine aA i ?_;refine Ac e ?_;exact kH
theorem jxh(l:List Int)(r:l.length<=1099511627776):CallsF prog 174 [.c (AT l)] (.u (.c (.d (.bool (!decide l.Nodup))))):=by
 refine cO func174 rfl ?_;simp (maxSteps:=2000000) -implicitDefEqProofs[jJ,-qA,-qB];refine AV (λi:Nat=>⟨[(6,vI .i64 i),(5,vI .i64 l.length),(0,vC (.d (AT l)))],[]⟩) (λi=>i<=l.length/\(l.take i).Nodup) (λi=>l.length - i) 0 O1 O1 ?_;rintro i ⟨q,g⟩;by_cases h:i<l.length
 ·have o:=jvI (l.take i) l[i] (by rw[A8];omega);have e:=Cr h;simp (maxSteps:=2000000) -implicitDefEqProofs[jJ,-qA,-qB,h];refine AA (Ah [0,0,3,0,0,24,56,127]) [.any [] [] (Aq [[0],[3],[9,10],[0],[3],[12,13],[14]]),.one] O5 ?_;simp (maxSteps:=2000000) -implicitDefEqProofs[jJ,-qA,-qB,h,i64];refine⟨O,?_⟩;refine Ac o ?_;by_cases f:l[i]∈l.take i
  ·simp (maxSteps:=2000000) -implicitDefEqProofs[jJ,-qA,-qB,f];intro p;have:(l.take (i+1)).Nodup:=p.sublist (List.take_sublist _ _);rw[e,List.nodup_append]at this;exact this.2.2 _ f _ O1 rfl
  ·simp (maxSteps:=2000000) -implicitDefEqProofs[jJ,-qA,-qB,f];refine⟨O,⟨O,?_⟩,O⟩;rw[e,List.nodup_append];exact⟨g,O1,λa k b m=>by
    have:b=l[i]:=by simpa using m
    subst this;intro j;exact f (j ▸ k)⟩
 ·have:i=l.length:=O;subst this;rw[BM]at g;simp (maxSteps:=2000000) -implicitDefEqProofs[jJ,-qA,-qB];exact g
def jgK(neg:Bool)(m e:Nat)(p q:Int×Int):Bool:=decide (p=q)&&decide (LG neg m=e)||decide (p.1=p.2)&&(decide (q.1=q.2)||decide (m=0))
theorem jA0(a b c d:Int)(neg:Bool)(m e:Nat)(v:m<340282366920938463463374607431768211456)(r:e<340282366920938463463374607431768211456)(h:e≠0):
  CallsF prog 175 [.agg [.int .i64 9,AT [a,b,c,d],.bool neg,Ad (limbs m),Ad (limbs e)]] (.u (.c (.d (.bool (jgK neg m e (AQ a b) (AQ c d)))))):=by
 refine cO func175 rfl ?_;have H:=BP (n:=m) O;have G:=BP (n:=e) O;have w:=jeK 9 a b c d neg (limbs m) (limbs e);have E:=jq8 neg m e v r h;have F:=jd8 1 O;have o:=jj1 neg (limbs m) (limbs e) (Aw _) O (Aw _) O (by rw[Az];exact h);rw[Az]at o;clear H G;unfold jgK AQ;generalize AT [a,b,c,d]=l at*;generalize lo c d=x at*;generalize hi c d=y at*;generalize lo a b=z at*;generalize hi a b=t at*;have p:=Y3 z t;have q:=Y3 x y;simp (maxSteps:=2000000) -implicitDefEqProofs[jJ,-qA,-qB];refine Ac w ?_;simp (maxSteps:=2000000) -implicitDefEqProofs[jJ,-qA,-qB];refine AA (Ah [0,1,3,0,8,24,63,127,255,511,255,2047,4095]) [.any [] [] (Aq [[3],[6],[7],[3],[9],[10]]),.one,.one,.any [] [] (Aq [[1,13],[14,13],[13]]),.one,.one] O5 ?_;by_cases i:z=x/\t=y
 ·obtain⟨rfl,rfl⟩:=i;simp (maxSteps:=2000000) -implicitDefEqProofs[jJ,-qA,-qB];refine Ae F ?_;simp (maxSteps:=2000000) -implicitDefEqProofs[jJ,-qA,-qB];refine Ac E ?_;by_cases j:LG neg m=e
  ·simp (maxSteps:=2000000) -implicitDefEqProofs[jJ,-qA,-qB,j]
  ·simp (maxSteps:=2000000) -implicitDefEqProofs[jJ,-qA,-qB,j];refine Ac p ?_;by_cases f:z=t
   ·subst f;simp (maxSteps:=2000000) -implicitDefEqProofs[jJ,-qA,-qB];refine Ac q ?_;simp (maxSteps:=2000000) -implicitDefEqProofs[jJ,-qA,-qB]
   ·simp (maxSteps:=2000000) -implicitDefEqProofs[jJ,-qA,-qB,f]
 ·have g:(decide (z=x)&&decide (t=y))=false:=by simpa using i
  simp (maxSteps:=2000000) -implicitDefEqProofs[jJ,-qA,-qB,g];refine Ac p ?_;by_cases f:z=t
  ·subst f;simp (maxSteps:=2000000) -implicitDefEqProofs[jJ,-qA,-qB];refine Ac q ?_;by_cases k:x=y
   ·simp (maxSteps:=2000000) -implicitDefEqProofs[jJ,-qA,-qB,k]
   ·simp (maxSteps:=2000000) -implicitDefEqProofs[jJ,-qA,-qB,k];refine Ac o ?_;simp (maxSteps:=2000000) -implicitDefEqProofs[jJ,-qA,-qB,Zd]
  ·simp (maxSteps:=2000000) -implicitDefEqProofs[jJ,-qA,-qB,f]
def jeb(u v w z:Int×Int):Bool:=decide (u.1=u.2)||decide (v.1=v.2)||decide (w.1=w.2)||decide (z.1=z.2)||(decide (v=u)&&decide (w=z))||(decide (v=z)&&decide (w=u))
theorem jvQ(a b c d e f g h:Int)(neg:Bool)(m o:List Nat):
  CallsF prog 176 [.agg [.int .i64 7,AT [a,b,c,d,e,f,g,h],.bool neg,Ad m,Ad o]] (.u (.c (.d (.bool (jeb (AQ a b) (AQ c d) (AQ e f) (AQ g h)))))):=by
 refine cO func176 rfl ?_;have Q:=jrn 7 a b c d e f g h neg m o;unfold jeb AQ;generalize AT [a,b,c,d,e,f,g,h]=l at*;generalize lo a b=p at*;generalize hi a b=q at*;generalize lo c d=r at*;generalize hi c d=d1 at*;generalize lo e f=t at*;generalize hi e f=v at*;generalize lo g h=w at*;generalize hi g h=z at*;clear a b c d e f g h;have I:=Y3 p q;have J:=Y3 r d1;have K:=Y3 t v;have L:=Y3 w z;simp (maxSteps:=2000000) -implicitDefEqProofs[jJ,-qA,-qB];refine Ac Q ?_;simp (maxSteps:=2000000) -implicitDefEqProofs[jJ,-qA,-qB];refine AV (λi:Nat=>⟨[(10,vI .i64 i),(9,vI .i64 4),(8,vC (.sl 7 0 4)),(3,vC (.sl 7 0 4)),(1,vC (.ptr 1 0))],[(7,.row 2 [.int .i64 p,.int .i64 q,.int .i64 r,.int .i64 d1,.int .i64 t,.int .i64 v,.int .i64 w,.int .i64 z] true),(1,.box [.d (.int .i64 7),.d l,.d (.bool neg),.d (Ad m),.d (Ad o)])]⟩)
  (λi=>i<=4/\(0<i->p≠q)/\(1<i->r≠d1)/\(2<i->t≠v)/\(3<i->w≠z)) (λi=>4 - i) 0 O1 O1 ?_
 rintro i ⟨hi,j,k,E,M⟩
 match i,hi with
 |0,_=>
  by_cases h:p=q
  ·simp (maxSteps:=2000000) -implicitDefEqProofs[jJ,-qA,-qB];refine Ac I ?_;simp (maxSteps:=2000000) -implicitDefEqProofs[jJ,-qA,-qB,h]
  ·simp (maxSteps:=2000000) -implicitDefEqProofs[jJ,-qA,-qB];refine Ac I ?_;simp (maxSteps:=2000000) -implicitDefEqProofs[jJ,-qA,-qB,h]
 |1,_=>
  have j:=j O;by_cases h:r=d1
  ·simp (maxSteps:=2000000) -implicitDefEqProofs[jJ,-qA,-qB];refine Ac J ?_;simp (maxSteps:=2000000) -implicitDefEqProofs[jJ,-qA,-qB,h]
  ·simp (maxSteps:=2000000) -implicitDefEqProofs[jJ,-qA,-qB];refine Ac J ?_;simp (maxSteps:=2000000) -implicitDefEqProofs[jJ,-qA,-qB,h,j]
 |2,_=>
  have j:=j O;have k:=k O;by_cases h:t=v
  ·simp (maxSteps:=2000000) -implicitDefEqProofs[jJ,-qA,-qB];refine Ac K ?_;simp (maxSteps:=2000000) -implicitDefEqProofs[jJ,-qA,-qB,h]
  ·simp (maxSteps:=2000000) -implicitDefEqProofs[jJ,-qA,-qB];refine Ac K ?_;simp (maxSteps:=2000000) -implicitDefEqProofs[jJ,-qA,-qB,h,j,k]
 |3,_=>
  have j:=j O;have k:=k O;have E:=E O;by_cases h:w=z
  ·simp (maxSteps:=2000000) -implicitDefEqProofs[jJ,-qA,-qB];refine Ac L ?_;simp (maxSteps:=2000000) -implicitDefEqProofs[jJ,-qA,-qB,h]
  ·simp (maxSteps:=2000000) -implicitDefEqProofs[jJ,-qA,-qB];refine Ac L ?_;simp (maxSteps:=2000000) -implicitDefEqProofs[jJ,-qA,-qB,h,j,k,E]
 |4,_=>
  have j:=j O;have k:=k O;have E:=E O;have M:=M O;clear I J K L Q;simp (maxSteps:=2000000) -implicitDefEqProofs[jJ,-qA,-qB,j,k,E,M];refine AA (Ah [0,1,3,0,8,24,63,127,255,511,1023,255,2303,6399,16383,32767,65535,131071,262143,524287,131071,1179647,3276799,8388607,16777215,33554431,67108863,134217727,33554431,301989887,838860799,2147483647,4294967295,8589934591,17179869183]) [.any [] [] (Aq [[3],[17],[18],[3],[20],[21]]),.one,.one,.any [] [] (Aq [[3,24],[25,24],[26,24],[3,24],[28,24],[29,24]]),.one,.one,.one,.any [] [] (Aq [[3,33],[34,33],[35,33],[3,33],[37,33],[38,33]]),.one,.one,.any [] [] (Aq [[3,41],[42,41],[43,41],[3,41],[45,41],[46,41]]),.one,.one,.one,.one] O5 ?_;have A: ∀x y:Bool,(x||y)=true->x=false->y=true:=O2;generalize F:(decide (r=p)&&decide (d1=q))=S;generalize H:(decide (t=w)&&decide (v=z))=A2;generalize G:(decide (r=w)&&decide (d1=z))=N;generalize P:(decide (t=p)&&decide (v=q))=T;cases S
  ·cases N
   ·simp (maxSteps:=2000000) -implicitDefEqProofs[jJ,-qA,-qB,F,G]
   ·simp (maxSteps:=2000000) -implicitDefEqProofs[jJ,-qA,-qB,F,G,P]
  ·cases A2
   ·cases N
    ·simp (maxSteps:=2000000) -implicitDefEqProofs[jJ,-qA,-qB,F,H,G]
    ·simp (maxSteps:=2000000) -implicitDefEqProofs[jJ,-qA,-qB,F,H,G,P]
   ·simp (maxSteps:=2000000) -implicitDefEqProofs[jJ,-qA,-qB,F,H]
def jjw:List (List Nat):=(Ah [0,1,3,7,15,31,63,127,255,127,1023,2047,4095,8191,16383])
@[simp]def jjq:List Seg:=[.one,.one,.one,.one,.one,.one,.one,.any [] [] (Aq [[2,11],[12,11],[3,11]]),.one,.one,.one,.one,.one]
def jmm(f:Fct):Bool:=
 if f.kind=1\/f.kind=6\/f.kind=8 then !decide f.args.Nodup
 else if f.kind=5 then (match f.args with|[a,b,c]=>decide (a=b)&&decide (b=c)|_=>false)
 else if f.kind=9 then (match f.args with|[a,b,c,d]=>jgK f.neg (val f.abs) (val f.den) (AQ a b) (AQ c d)|_=>false)
 else if f.kind=7 then (match f.args with|[a,b,c,d,e,f,g,h]=>jeb (AQ a b) (AQ c d) (AQ e f) (AQ g h)|_=>false)
 else (match f.args with
  |[a,b,c,d]=>if f.kind=2 then decide (lo a b=hi a b)||decide (lo c d=hi c d)||decide (AQ a b=AQ c d)
   else if f.kind=3 then decide (lo a b=hi a b)||decide (lo c d=hi c d)
   else decide (lo a b=hi a b)&&decide (lo c d=hi c d)||decide (AQ a b=AQ c d)
  |_=>false)
def RQ(f:Fct):Bool:=Eb f&&jmm f
theorem jrb(f:Fct)(H:f.Mild):CallsF prog 97 [.agg f.ds] (.u (.c (.d (.bool (RQ f))))):=by
 have i:=je9 f H;have T:=λh=>(Fct.Rt.mk h H).parts;unfold RQ;obtain⟨k,l,n,m,d⟩:=f;obtain⟨W,X,K,L,Y⟩:=H;simp only[Fct.ds]at*;cases h:Eb ⟨k,l,n,m,d⟩
 ·rw[h]at i;refine oA func97 ?_;refine Ac i ?_;exact kA
 ·rw[h]at i;obtain⟨o,p,w,v⟩:=T h;clear T h;unfold jmm;simp only;rw[Bool.true_and];by_cases F:k=1\/k=6\/k=8
  ·rw[if_pos F];have r:=jxh l Y;clear o p w v;refine oA func97 ?_;refine Ac i ?_;rcases F with rfl|rfl|rfl<;>refine rA ?_<;>refine Ac r ?_<;>exact kA
  rw[if_neg F];by_cases I:k=5
  ·subst I;obtain⟨a,b,c,rfl⟩:=RA (by simpa [arity]using p);rw[if_pos rfl];clear o p w v;refine oA func97 ?_;refine aA i ?_;refine AA (Ah [0,1,3,7,0,16,48,112,255,511,1023,2047,4095,8191,1023,17407,50175,115711,262143,524287,1048575]) [.any [] [] (Aq [[1],[18],[19],[20],[1],[22],[23],[24]]),.one,.one,.any [] [] (Aq [[1,27],[28,27],[29,27],[30,27],[1,27],[32,27],[33,27],[34,27]]),.one,.one,.one] O5 ?_;by_cases j:a=b<;>simp -implicitDefEqProofs[jJ,-qA,-qB,j,i64]
  rw[if_neg I];by_cases J:k=9
  ·subst J;obtain⟨a,b,c,e,rfl⟩:=KQ (by simpa [arity]using p);rw[if_pos rfl]at v ⊢;obtain⟨P,Q,d0,g,_⟩:=Cz v K L;have r:=jA0 a b c e n (val m) (val d) (K.ltW W) (L.ltW X) d0;rw[<-P,<-Q]at r;simp only;clear o p w v P Q;refine oA func97 ?_;refine aA i ?_;refine Ac r ?_;exact kA
  rw[if_neg J];by_cases G:k=7
  ·subst G;obtain⟨a,b,c,e,Z,b',c',e',rfl⟩:=VH (by simpa [arity]using p);rw[if_pos rfl];have r:=jvQ a b c e Z b' c' e' n m d;clear o p w v;refine oA func97 ?_;refine aA i ?_;refine Ac r ?_;exact kA
  rw[if_neg G];have S:k=2\/k=3\/k=4:=by
   unfold arity at o;by_cases q1:k=1\/k=5
   ·omega
   rw[if_neg q1]at o;by_cases q2:k=2\/k=3\/k=4\/k=6\/k=9
   ·omega
   rw[if_neg q2,if_neg G,if_neg O]at o;exact absurd rfl o
  obtain⟨a,b,c,e,rfl⟩:=KQ (l:=l) (by rcases S with rfl|rfl|rfl<;>simpa [arity]using p);have r:=jeK k a b c e n m d;simp only;unfold AQ;clear o p w v F I J G;generalize AT [a,b,c,e]=l at*;generalize lo c e=x at*;generalize hi c e=y at*;generalize lo a b=z at*;generalize hi a b=t at*;have M:=Y3 z t;have N:=Y3 x y;clear W X K L Y;rcases S with rfl|rfl|rfl
  ·refine oA func97 ?_;refine aA i ?_;refine aA r ?_;refine AA (Ah [0,1,3,7,15,31,63,127,255,511,1023,2047,4095,8191,2047,18431,51199,131071,262143,524287]) [.one,.one,.one,.one,.one,.one,.one,.one,.one,.one,.one,.any [] [] (Aq [[3,62],[63,62],[64,62],[3,62],[66,62],[67,62]]),.one,.one,.one] O5 ?_;refine rA ?_;refine Ac M ?_;by_cases q:z=t
   ·exact kA1 q
   ·refine rA1 q ?_;refine Ac N ?_;by_cases E:x=y
    ·exact kA1 E
    ·exact kA1 E
  ·refine oA func97 ?_;refine aA i ?_;refine aA r ?_;refine Ac M ?_;by_cases q:z=t
   ·exact kA1 q
   ·refine rA1 q ?_;refine Ac N ?_;exact kA
  ·refine oA func97 ?_;refine aA i ?_;refine aA r ?_;refine AA (Ah [0,1,3,7,15,31,63,127,255,511,1023,2047,4095,8191,2047,18431,51199,131071,262143,524287]) [.one,.one,.one,.one,.one,.one,.one,.one,.one,.one,.one,.any [] [] (Aq [[3,93],[94,93],[95,93],[3,93],[97,93],[98,93]]),.one,.one,.one] O5 ?_;refine rA ?_;refine Ac M ?_;by_cases q:z=t
   ·refine rA1 q ?_;refine Ac N ?_;by_cases E:x=y
    ·exact kA1 E
    ·exact kA1 E
   ·exact kA1 q
theorem Fct.Rt.of{f:Fct}(j:f.Mild)(g:arity f.kind≠0)(k:f.args.length=arity f.kind)(h: ∀a∈f.args,0<=a/\a<40)
  (b:if f.kind=9 then CV f.neg f.abs f.den=true else f.neg=false/\f.abs=[]/\f.den=[]):f.Rt:=by
 refine⟨?_,j⟩;unfold Eb A6;rw[if_neg g,if_neg O,if_neg (by
  simp only[List.any_eq_true,not_exists,Bool.or_eq_true,decide_eq_true_eq,not_and,not_or];intro a i;have:=h a i;omega)]
 by_cases e:f.kind=9
 ·rw[if_pos e]at b ⊢;simp[b]
 ·rw[if_neg e]at b ⊢;simp[DP,b.1,b.2.1,b.2.2]
theorem jid(k:Int)(l:List Int)(a:l.length<=1099511627776):(Fct.mk k l false [] []).Mild:=⟨O1,O1,Ok.nil,Ok.nil,a⟩
theorem jbu(n:Nat):Nr (limbs n)=true:=by
 unfold Nr;simp only[decide_eq_true_eq];intro h;have e:=Gc (limbs n) (Aw n);rw[Az]at e;obtain⟨k,hk⟩: ∃k,(limbs n).length=k+1:=by
  refine⟨(limbs n).length - 1,?_⟩;have:limbs n≠[]:=λa=>by rw[a]at h;simp at h
  have:=List.length_pos_iff.2 this;omega
 rw[List.getLast?_eq_getElem?,hk]at h;simp only[Nat.add_sub_cancel]at h;have b:(limbs n).getD k 0=0:=by rw[AL,h];rfl
 have g:Bw (limbs n) (limbs n).length<=k:=by
  rw[hk];unfold Bw;rw[if_pos b];exact FF _ _
 have f:=congrArg List.length e;rw[A8]at f;omega
theorem TY{a b:Int}(e:0<=a/\a<40)(f:0<=b/\b<40):0<=lo a b/\lo a b<40:=by unfold lo;split<;>omega
theorem Tl{a b:Int}(e:0<=a/\a<40)(f:0<=b/\b<40):0<=hi a b/\hi a b<40:=by unfold hi;split<;>omega
theorem jiJ(a b:Int):oth a b a=b:=by unfold oth;omega
theorem jgJ(a b:Int):oth a b b=a:=by unfold oth;omega
theorem jaJ{k:Int}{l:List Int}(e:arity k≠0)(b:l.length=arity k)(g:k≠9)(f: ∀a∈l,0<=a/\a<40):(Fct.mk k l false [] []).Rt:=by
 have h:l.length<=8:=by
  rw[b];unfold arity;split
  ·omega
  ·split
   ·omega
   ·split
    ·omega
    ·split<;>omega
 refine Fct.Rt.of (jid k l O) e b f ?_;rw[if_neg g];exact⟨rfl,rfl,rfl⟩
theorem jm3{k:Int}{p q:Int×Int}(a:k=2\/k=3\/k=4)(b:0<=p.1/\p.1<40)(e:0<=p.2/\p.2<40)(f:0<=q.1/\q.1<40)(g:0<=q.2/\q.2<40):(MK k p q).Rt:=by
 unfold MK;split
 ·refine jaJ (by rcases a with rfl|rfl|rfl<;>decide) (by rcases a with rfl|rfl|rfl<;>rfl) O ?_;simp[b,e,f,g]
 ·refine jaJ (by rcases a with rfl|rfl|rfl<;>decide) (by rcases a with rfl|rfl|rfl<;>rfl) O ?_;simp[b,e,f,g]
theorem Ys{f:Fct}(h:f.Rt):(normG f).Rt:=by
 obtain⟨h1,G,i,L⟩:=h.parts;obtain⟨la,ld,oa,od,ln⟩:=h.mild;obtain⟨k,l,n,m,d⟩:=f;simp only at*;unfold normG;simp only;by_cases h5:k=5
 ·subst h5;obtain⟨a,b,c,rfl⟩:=RA (by simpa [arity]using G);simp only[if_true];refine jaJ O2 rfl O2 ?_;have j:=TY (i b O1) (i c O1);have o:=Tl (i b O1) (i c O1);have v:=i a O1;simp[j,o,v]
 rw[if_neg h5];by_cases h6:k=2
 ·subst h6;obtain⟨a,b,c,e,rfl⟩:=KQ (by simpa [arity]using G);simp only[if_true];have j:=TY (i a O1) (i b O1);have o:=Tl (i a O1) (i b O1);have v:=TY (i c O1) (i e O1);have w:=Tl (i c O1) (i e O1);unfold TZ AQ;simp only[jiJ,jgJ];generalize lo a b=x at*;generalize hi a b=y at*;generalize lo c e=z at*;generalize hi c e=t at*;have r: ∀l:List Int,l.length=3->(∀a∈l,0<=a/\a<40)->(Fct.mk 1 (LI l) false [] []).Rt:=λl S T=>by
   refine jaJ O2 (by rw[Zv,S];rfl) O2 λa Q=>T a ?_;exact(Bq _).mem_iff.1 Q
  by_cases F:z=x\/t=x
  ·rw[if_pos F];refine r _ rfl ?_;rcases F with rfl|rfl
   ·simp[jiJ,j,o,w]
   ·simp[jgJ,j,o,v]
  ·rw[if_neg F];by_cases E:z=y\/t=y
   ·rw[if_pos E];refine r _ rfl ?_;rcases E with rfl|rfl
    ·simp[jiJ,j,o,w]
    ·simp[jgJ,j,o,v]
   ·rw[if_neg E];exact jm3 O j o v w
 rw[if_neg h6];by_cases P:k=3\/k=4
 ·obtain⟨a,b,c,e,rfl⟩:=KQ (l:=l) (by rcases P with rfl|rfl<;>simpa [arity]using G);rw[if_pos P];exact jm3 O (TY (i a O1) (i b O1)) (Tl (i a O1) (i b O1)) (TY (i c O1) (i e O1)) (Tl (i c O1) (i e O1))
 rw[if_neg P];by_cases M:k=9
 ·subst M;obtain⟨a,b,c,e,rfl⟩:=KQ (by simpa [arity]using G);rw[if_pos rfl]at L ⊢;simp only;obtain⟨Y,Z,d0,g,hn⟩:=Cz L oa od;have j:=TY (i a O1) (i b O1);have o:=Tl (i a O1) (i b O1);have v:=TY (i c O1) (i e O1);have w:=Tl (i c O1) (i e O1);have X:(limbs (val m)).length<=8:=by rw[<-Y];exact la
  have W:(limbs (val d)).length<=8:=by rw[<-Z];exact ld
  have r1:CV n (limbs (val m)) (limbs (val d))=true:=by rw[<-Y,<-Z];exact L
  have r2:val m≠0->CV n (limbs (val d)) (limbs (val m))=true:=λm0=>by
   unfold CV;rw[jbu,jbu,Az,Az];have g':Nat.gcd (val d) (val m)=1:=by rw[Nat.gcd_comm];exact g
   simp[limbs_nil,m0,d0,g']
  have r: ∀(l:List Int) (A B:List Nat),l.length=4->(∀a∈l,0<=a/\a<40)->A.length<=8->B.length<=8->Ok A->Ok B->CV n A B=true->(Fct.mk 9 l n A B).Rt:=λl A B S T hA hB oA oB hR=>
   Fct.Rt.of ⟨hA,hB,oA,oB,by simp only;omega⟩ (by simp[arity]) S T (by rw[if_pos rfl];exact hR)
  unfold O7 AQ;by_cases F:LG n (val m)=val d
  ·rw[if_pos F];exact jm3 O j o v w
  rw[if_neg F];by_cases E:val m≠0/\Dg (lo c e,hi c e) (lo a b,hi a b)<0
  ·rw[if_pos E];exact r _ _ _ rfl (by simp[j,o,v,w]) W X (Aw _) (Aw _) (r2 E.1)
  rw[if_neg E];by_cases N:val m≠0/\(lo a b,hi a b)=(lo c e,hi c e)/\Nk (LG n (val d)*(val d:Int)) (LG n (val m)*(val m:Int))<0
  ·rw[if_pos N];exact r _ _ _ rfl (by simp[j,o,v,w]) W X (Aw _) (Aw _) (r2 N.1)
  ·rw[if_neg N];exact r _ _ _ rfl (by simp[j,o,v,w]) X W (Aw _) (Aw _) r1
 rw[if_neg M];by_cases h9:k=7
 ·subst h9;obtain⟨a,b,c,e,H,I,J,K,rfl⟩:=VH (by simpa [arity]using G);rw[if_pos rfl];simp only;have j:=TY (i a O1) (i b O1);have o:=Tl (i a O1) (i b O1);have v:=TY (i c O1) (i e O1);have w:=Tl (i c O1) (i e O1);have b1:=TY (i H O1) (i I O1);have b2:=Tl (i H O1) (i I O1);have b3:=TY (i J O1) (i K O1);have b4:=Tl (i J O1) (i K O1);have s1: ∀p q:Int×Int,srt2 p q=(p,q)\/srt2 p q=(q,p):=λp q=>by unfold srt2;split<;>simp
  unfold M8 AQ;rcases s1 (lo a b,hi a b) (lo J K,hi J K)with x1|x1<;>rcases s1 (lo c e,hi c e) (lo H I,hi H I)with x2|x2<;>rw[x1,x2]<;>split<;>exact jaJ O2 rfl O2 (by simp[j,o,v,w,b1,b2,b3,b4])
 ·rw[if_neg h9];rw[if_neg M]at L;refine jaJ h1 (by rw[Zv,G]) M λa Q=>i a ((Bq _).mem_iff.1 Q)
def LZ(f g:Fct):Bool:=Eb f&&(Eb g&&decide (C2 (normG f) (normG g)=0))
theorem jy3(f g:Fct)(o:f.Mild)(p:g.Mild):CallsF prog 18 [.agg f.ds,.agg g.ds] (.u (.c (.d (.bool (LZ f g))))):=by
 have a:=je9 f o;have e:=je9 g p;have i:=jb0 f o;have j:=jb0 g p;have k:=λh=>Ys (f:=f) ⟨h,o⟩;have l:=λh=>Ys (f:=g) ⟨h,p⟩;unfold normF at i j;unfold LZ;cases b:Eb f
 ·rw[b]at a;simp only[Fct.ds]at*;refine oA func18 ?_;refine AA jjw jjq O5 ?_;refine rA ?_;refine Ac a ?_;exact kA
 ·cases m:Eb g
  ·rw[b]at a;rw[m]at e;simp only[Fct.ds]at*;refine oA func18 ?_;refine AA jjw jjq O5 ?_;refine rA ?_;refine aA a ?_;refine Ac e ?_;exact kA
  ·have k:=k b;have l:=l m;have q:=jhR (normG f) (normG g) k.mild l.mild k.num l.num;rw[b]at a i;rw[m]at e j;rw[if_pos rfl]at i j;generalize normG f=x at*;generalize normG g=y at*;simp only[Fct.ds,Fct.res]at*;refine oA func18 ?_;refine AA jjw jjq O5 ?_;refine rA ?_;refine aA a ?_;refine aA e ?_;refine aA i ?_;refine aA j ?_;refine Ac q ?_;exact kA
end Go.Va
