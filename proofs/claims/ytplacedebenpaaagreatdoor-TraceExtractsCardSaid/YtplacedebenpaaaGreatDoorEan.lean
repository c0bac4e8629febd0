/- a part of the proof -/
import Derived.Test.YtplacedebenpaaaGreatDoorEam
set_option linter.all false
set_option maxHeartbeats 4000000
set_option maxRecDepth 10000
namespace Go.Va
open _root_.Nat renaming lt_of_le_of_lt → aD, gcd_comm → aG, gcd → aH, mod_le → aI
open Int renaming natCast_add → qA, natCast_mul → qB, natCast_emod → qC, natCast_ediv → qD, natCast_pow → qE
open Go.Proofs Go.Proofs.Tryz
def jsr:List (List Nat):=(Ah [0,1,0,4,15,0,32,0,128,480,1023,2047])
@[simp]def jov:List Seg:=[.any [] [] (Aq [[2],[5],[3],[7],[6,8],[2],[10],[3],[12],[11,13]]),.one,.one]
def sg(neg:Bool)(n:Nat):Bool:=neg&&decide (0<n)
def AU(neg:Bool)(n:Nat):List RC:=[.d (.bool (sg neg n)),.d (Ad (limbs n))]
def LG(neg:Bool)(n:Nat):Int:=if neg then -(n:Int) else n
def Bg(neg:Bool)(n:Nat):Int:=if n=0 then 0 else if neg then -1 else 1
theorem limbs_pos_len{n:Nat}:0<(limbs n).length↔0<n:=by
 rw[List.length_pos_iff,ne_eq,limbs_nil];omega
variable{n m:Nat}
theorem E6[DrC](neg:Bool)(a:List Nat)(b:Ok a)(f:a.length<=1099511627776):CallsF prog 128 [.c (.bool neg),.c (Ad a)] (.u (.agg (AU neg (val a)))):=by
 refine oB func128 ?_;refine .inl ⟨_,CM a b O,?_⟩;have e:= @limbs_pos_len (val a);cases neg<;>simp -implicitDefEqProofs[jJ,-qA,-qB,-qC,-qD,-qE,AU,sg,e]
theorem XM[DrC](neg:Bool)(a:List Nat)(b:Ok a)(e:a.length<=1099511627776):CallsF prog 364 [.c (.bool neg),.c (Ad a)] (.u (.agg (AU neg (val a)))):=by
 refine oB func364 ?_;refine .inl ⟨_,EO a b e,?_⟩;have f:= @limbs_pos_len (val a);cases neg<;>simp -implicitDefEqProofs[jJ,-qA,-qB,-qC,-qD,-qE,AU,sg,f]
theorem jev[DrC](neg:Bool)(n:Nat):CallsF prog 255 [.c (.bool neg),.c (Ad (limbs n))] (.u (.agg (AU neg n))):=by
 refine cO func255 rfl ?_;have a:= @limbs_pos_len n;cases neg<;>simp -implicitDefEqProofs[jJ,-qA,-qB,-qC,-qD,-qE,AU,sg,a]
theorem IS[DrC](neg:Bool)(a:List Nat)(b:Ok a)(e:a.length<=1099511627776):CallsF prog 207 [.agg [.bool neg,Ad a]] (.u (.agg (AU neg (val a)))):=by
 refine oB func207 ?_;refine .inl ⟨_,E6 neg a b e,?_⟩;exact kQ
theorem QB[DrC](neg:Bool)(a:List Nat)(b:Ok a)(e:a.length<=1099511627776):CallsF prog 319 [.agg [.bool neg,Ad a]] (.u (.agg (AU neg (val a)))):=by
 refine oB func319 ?_;refine .inl ⟨_,XM neg a b e,?_⟩;exact kQ
theorem jBY[DrC](neg:Bool)(a:List Nat)(b:Ok a)(e:a.length<=1099511627776):CallsF prog 126 [.agg [.bool neg,Ad a]] (.u (.agg (AU (!neg) (val a)))):=by
 refine oB func126 ?_;refine .inl ⟨_,E6 (!neg) a b e,?_⟩;exact kQ
theorem jqX[DrC](neg:Bool)(a:List Nat)(e:Ok a)(f:a.length<=1099511627776):CallsF prog 125 [.agg [.bool neg,Ad a]] (.u (.c (.d (.int .i64 (Bg neg (val a)))))):=by
 refine oB func125 ?_;refine .inl ⟨_,IS neg a e f,?_⟩;have g:=SG (val a);simp -implicitDefEqProofs[jJ,-qA,-qB,-qC,-qD,-qE,AU,g];by_cases b:val a=0
 ·simp[b,Bg]
 ·cases neg<;>simp[b,Bg,sg]<;>omega
theorem jeD[DrC](e f:Bool)(a b:List Nat)(g:Ok a)(i:a.length<=274877906944)(h:Ok b)(j:b.length<=274877906944):
  CallsF prog 163 [.agg [.bool e,Ad a],.agg [.bool f,Ad b]] (.u (.agg (AU (!decide (e=f)) (val a*val b)))):=by
 refine oB func163 ?_;refine AA jsr jov O5 ?_;refine rB ?_;refine⟨_,jpQ a b g i h j,?_⟩;refine rB ?_;refine .inl ⟨_,jev _ _,?_⟩;exact kQ
theorem Z5[DrC](e f:Bool)(a b:List Nat)(g:Ok a)(j:a.length<=274877906944)(i:Ok b)(k:b.length<=274877906944)(l:(limbs (val a*val b)).length<=1099511627776):
  CallsF prog 205 [.agg [.bool e,Ad a],.agg [.bool f,Ad b]] (.u (.agg (AU (!decide (e=f)) (val a*val b)))):=by
 refine oB func205 ?_;refine AA jsr jov O5 ?_;refine rB ?_;refine⟨_,jlz a b g j i k,?_⟩;refine rB ?_;have h:=E6 (!decide (e=f)) (limbs (val a*val b)) (Aw _) l;rw[Az]at h;refine .inl ⟨_,h,?_⟩;exact kQ
theorem jvB[DrC](n:Nat)(a:n<9223372036854775808):CallsF prog 287 [.c (.int .i64 n)] (.u (.agg (AU false n))):=by
 refine oB func287 ?_;rw[AX O];refine .inl ⟨_,IA n O,?_⟩;refine rB ?_;refine .inl ⟨_,jev _ _,?_⟩;exact kQ
theorem joH[DrC](n:Nat)(a:n<9223372036854775808):CallsF prog 64 [.c (.int .i64 n)] (.u (.agg (AU false n))):=by
 refine oB func64 ?_;rw[AX O];refine .inl ⟨_,C6 n O,?_⟩;refine rB ?_;have h:=E6 false (limbs n) (Aw _) (by have:=(GE n).2 O;omega);rw[Az]at h;refine .inl ⟨_,h,?_⟩;exact kQ
theorem jjE[DrC](neg:Bool)(a:List Nat)(b:a.length<=140737488355328):CallsF prog 309 [.agg [.bool neg,Ad a]] (.u (.c (.d (.bool (Nr a&& !(neg&&decide (a=[]))))))):=by
 refine oB func309 ?_;refine .inl ⟨_,Zb a O,?_⟩;generalize Nr a=d;cases d<;>cases neg<;>exact kB
theorem jbv[DrC](neg:Bool)(a:List Nat)(j:a.length<=1099511627776):CallsF prog 248 [.agg [.bool neg,Ad a]] (.u (.c (.d (.bool (Nr a&& !(neg&&decide (a=[]))))))):=by
 refine cO func248 rfl ?_;rcases Nat.eq_zero_or_pos a.length with h0|h0
 ·have:a=[]:=jzv.1 h0;subst this;cases neg<;>simp -implicitDefEqProofs[jJ,-qA,-qB,-qC,-qD,-qE,Nr]
 ·obtain⟨n,hn⟩: ∃n,a.length=n+1:=⟨a.length - 1,O⟩
  have b:a≠[]:=λh=>by rw[h]at hn;simp at hn
  obtain⟨x,f⟩:=EI (a:=a) (n:=n) O;have g:a.getLast? =some x:=by rw[List.getLast?_eq_getElem?,hn];simpa using f
  cases neg<;>simp -implicitDefEqProofs[jJ,-qA,-qB,-qC,-qD,-qE,u16,hn,g,b,Nr]
  all_goals
   have e:a[n]' O=x:=by
    have:=AD (l:=a) (i:=n) O;rw[f]at this;exact(Bi this).symm
   rw[e];exact⟨O,Iff.rfl⟩
def t8(b:Nat):Nat:=if b=0 then 0 else Nat.log2 b+1
def lenTab:ByteArray:=⟨#[0,1,2,2,3,3,3,3,4,4,4,4,4,4,4,4,5,5,5,5,5,5,5,5,5,5,5,5,5,5,5,5,6,6,6,6,6,6,6,6,6,6,6,6,6,6,6,6,6,6,6,6,6,6,6,6,6,6,6,6,6,6,6,6,7,7,7,7,7,7,7,7,7,7,7,7,7,7,7,7,7,7,7,7,7,7,7,7,7,7,7,7,7,7,7,7,7,7,7,7,7,7,7,7,7,7,7,7,7,7,7,7,7,7,7,7,7,7,7,7,7,7,7,7,7,7,7,7,8,8,8,8,8,8,8,8,8,8,8,8,8,8,8,8,8,8,8,8,8,8,8,8,8,8,8,8,8,8,8,8,8,8,8,8,8,8,8,8,8,8,8,8,8,8,8,8,8,8,8,8,8,8,8,8,8,8,8,8,8,8,8,8,8,8,8,8,8,8,8,8,8,8,8,8,8,8,8,8,8,8,8,8,8,8,8,8,8,8,8,8,8,8,8,8,8,8,8,8,8,8,8,8,8,8,8,8,8,8,8,8,8,8,8,8,8,8,8,8,8,8,8,8,8,8,8,8]⟩
theorem P5: ∀b<256,lenTab[b]? =some (UInt8.ofNat (t8 b)):=O2
theorem Kt: ∀b,b<256->t8 b<256:=O2
def len16(x:Nat):Nat:=if x<256 then t8 x else 8+t8 (x/256)
theorem RW[DrC](x:Nat)(g:x<65536):CallsF prog 344 [.c (.int .u16 x)] (.u (.c (.d (.int .i64 (len16 x))))):=by
 unfold len16;refine cO func344 rfl ?_;have f:lenTab.size=256:=rfl;by_cases h:x<256
 ·have a: ¬256<=x:=O;have b:=P5 x h;refine rB2 h a ?_;refine⟨by change _<lenTab.size;omega,?_⟩;change AI (lenTab[x%256]?) _;rw[AX h,b];have e:t8 x<256:=Kt x h;refine rB ?_;rw[AX e,wrap_i64 O];omega
 ·have a:256<=x:=O;have b:=P5 (x/256) O;refine rB2 h a ?_;refine⟨by change _<lenTab.size;omega,?_⟩;change AI (lenTab[x/256%256]?) _;rw[AX (show x/256<256 by omega),b];have e:t8 (x/256)<256:=Kt (x/256) O;refine rB ?_;rw[AX e,wrap_i64 O];omega
theorem Wl{b:Nat}(h:0<b):0<t8 b:=by unfold t8;split<;>omega
theorem jbj{x:Nat}(h:0<x):0<len16 x:=by
 unfold len16;split
 ·exact Wl h
 ·omega
theorem Zw{x:Nat}(h:x<65536):len16 x<=300:=by
 unfold len16;split
 ·have:=Kt x O;omega
 ·have:=Kt (x/256) O;omega
theorem J9(h:n≠0): ∃x,(limbs n)[(limbs n).length - 1]? =some x/\0<x/\x<65536:=by
 induction n using Nat.strongRecOn with
 |_ n f=>
  rw[EF h];by_cases a:n/65536=0
  ·rw[a,Cm];exact⟨n%65536,rfl,O,O⟩
  ·obtain⟨x,b,e⟩:=f (n/65536) O a;have g:(limbs (n/65536)).length≠0:=λh=>a ((SG _).1 h);refine⟨x,?_,e⟩;rw[show(n%65536::limbs (n/65536)).length - 1=(limbs (n/65536)).length - 1+1 by simp;omega];simpa using b
def FN(n:Nat):Nat:=if n=0 then 0 else 16*((limbs n).length - 1)+len16 ((limbs n).getD ((limbs n).length - 1) 0)
theorem Oy(n:Nat):FN n=0↔n=0:=by
 unfold FN;split
 ·simp[*]
 ·rename_i h;obtain⟨x,a,b,_⟩:=J9 h;rw[AL,a];have:=jbj b;simp only[Option.getD_some];omega
theorem RH[DrC](a:List Nat)(k:Ok a)(o:a.length<=1099511627776):CallsF prog 251 [.c (Ad a)] (.u (.c (.d (.int .i64 (FN (val a)))))):=by
 refine oB func251 ?_;refine .inl ⟨_,Q1 a k o,?_⟩;have p:=Bu a k;by_cases b:val a=0
 ·simp -implicitDefEqProofs[jJ,-qA,-qB,-qC,-qD,-qE,b,Cm,FN]
 ·obtain⟨x,f,q,j⟩:=J9 b;have g:limbs (val a)≠[]:=λh=>b (limbs_nil.1 h);obtain⟨n,hn⟩: ∃n,(limbs (val a)).length=n+1:=⟨(limbs (val a)).length - 1,by have:=List.length_pos_iff.2 g;omega⟩
  have m:FN (val a)=16*n+len16 x:=by
   unfold FN;rw[if_neg b,AL,f,hn];rfl
  rw[m];rw[hn]at f;simp only[Nat.add_sub_cancel]at f;clear m;generalize limbs (val a)=y at*;have e:y[n]' O=x:=by
   have:=AD (l:=y) (i:=n) O;rw[f]at this;exact(Bi this).symm
  simp -implicitDefEqProofs[jJ,-qA,-qB,-qC,-qD,-qE,hn,u16,e];refine⟨O,O,O,.inl ⟨_,RW x j,?_⟩⟩;have:=Zw j;refine rB ?_;omega
theorem HS[DrC](neg:Bool)(a:List Nat)(f:Ok a)(i:a.length<=1099511627776):CallsF prog 250 [.agg [.bool neg,Ad a]] (.u (.c (.d (.int .i64 (Bg neg (val a)))))):=by
 refine oB func250 ?_;refine .inl ⟨_,RH a f i,?_⟩;have e:=Oy (val a);by_cases b:val a=0
 ·have g:=e.2 b;simp -implicitDefEqProofs[jJ,-qA,-qB,-qC,-qD,-qE,g,Bg];simp[b]
 ·have:FN (val a)≠0:=λh=>b (e.1 h);cases neg<;>simp -implicitDefEqProofs[jJ,-qA,-qB,-qC,-qD,-qE,b,this,Bg]
theorem jri[DrC](a b:List Nat)(e:Ok a)(g:a.length<=1099511627776)(f:Ok b)(h:b.length<=1099511627776):CallsF prog 253 [.c (Ad a),.c (Ad b)] (.u (.c (.d (.int .i64 (cmp3 (val a) (val b)))))):=by
 refine oB func253 ?_;refine .inl ⟨_,Jr a b e g f h,?_⟩;exact kB
theorem jgz(m n:Nat):Nk (m:Int) (n:Int)=cmp3 m n:=by
 unfold Nk cmp3;by_cases a:m<n
 ·rw[if_pos O,if_pos a]
 ·rw[if_neg O,if_neg a];by_cases b:n<m
  ·rw[if_pos O,if_pos b]
  ·rw[if_neg O,if_neg b]
theorem jlJ(m n:Nat):Nk (-(m:Int)) (-(n:Int))=cmp3 n m:=by
 unfold Nk cmp3;by_cases a:n<m
 ·rw[if_pos O,if_pos a]
 ·rw[if_neg O,if_neg a];by_cases b:m<n
  ·rw[if_pos O,if_pos b]
  ·rw[if_neg O,if_neg b]
theorem jns{a b:Bool}(h:Bg a m<Bg b n):Nk (LG a m) (LG b n)= -1:=by
 unfold Bg at h;unfold Nk LG;cases a<;>cases b<;>(repeat' split at h)<;>simp_all<;>omega
theorem jqt{a b:Bool}(h:Bg b n<Bg a m):Nk (LG a m) (LG b n)=1:=by
 unfold Bg at h;unfold Nk LG;cases a<;>cases b<;>(repeat' split at h)<;>simp_all<;>omega
theorem jvm{b e:Bool}(h:Bg b m=Bg e n)(a:Bg b m<0):Nk (LG b m) (LG e n)=cmp3 n m:=by
 have f:b=true:=by
  unfold Bg at a;cases b<;>(repeat' split at a)<;>simp_all
 have g:e=true:=by
  rw[h]at a;unfold Bg at a;cases e<;>(repeat' split at a)<;>simp_all
 subst f;subst g;exact jlJ m n
theorem jwD{b e:Bool}(h:Bg b m=Bg e n)(a:0<=Bg b m):Nk (LG b m) (LG e n)=cmp3 m n:=by
 have f:LG b m=(m:Int):=by
  unfold Bg at a;unfold LG;cases b<;>(repeat' split at a)<;>simp_all
 have g:LG e n=(n:Int):=by
  rw[h]at a;unfold Bg at a;unfold LG;cases e<;>(repeat' split at a)<;>simp_all
 rw[f,g,jgz]
theorem juX[DrC](k l:Bool)(a b:List Nat)(f:Ok a)(i:a.length<=1099511627776)(g:Ok b)(j:b.length<=1099511627776):
  CallsF prog 162 [.agg [.bool k,Ad a],.agg [.bool l,Ad b]] (.u (.c (.d (.int .i64 (Nk (LG k (val a)) (LG l (val b))))))):=by
 refine oB func162 ?_;refine AA (Ah [0,1,0,7,15,31]) [.any [] [] (Aq [[2],[8],[3]]),.one,.one,.one] O5 ?_;refine rB ?_;refine aB (HS k a f i) ?_;refine aB (HS l b g j) ?_;refine⟨λh=>by rw[jns h],λh=>⟨λm=>by rw[jqt m],λm=>⟨λe=> .inl ⟨_,jri b a g j f i,?_⟩,λe=> .inl ⟨_,jri a b f i g j,?_⟩⟩⟩⟩
 ·refine rB ?_;rw[jvm O e]
 ·refine rB ?_;rw[jwD O e]
theorem QP(neg:Bool)(n:Nat):LG (sg neg n) n=LG neg n:=by
 unfold LG sg;cases neg<;>simp;intro h;subst h;rfl
theorem jgf[DrC](e f:Bool)(a b:List Nat)(j:Ok a)(o:a.length<=1099511627776)(k:Ok b)(r:b.length<=1099511627776):
  CallsF prog 204 [.agg [.bool e,Ad a],.agg [.bool f,Ad b]] (.u (.c (.d (.int .i64 (Nk (LG e (val a)) (LG f (val b))))))):=by
 refine oB func204 ?_;refine AA (Ah [0,1,0,7,15,31]) [.any [] [] (Aq [[2],[5],[3]]),.one,.one,.one] O5 ?_;refine rB ?_;refine aQ (IS e a j o) ?_;refine Ac (IS f b k r) ?_;have p:=Bu a j;have q:=Bu b k;have l:=QP e (val a);have m:=QP f (val b);have g:=Iq (limbs (val a)) (limbs (val b)) (Aw _) O (Aw _) O;have i:=Iq (limbs (val b)) (limbs (val a)) (Aw _) O (Aw _) O;rw[Az,Az]at g i;have t:sg e (val a)=true->0<val a:=λh=>by unfold sg at h;simp at h;omega
 have v:sg f (val b)=true->0<val b:=λh=>by unfold sg at h;simp at h;omega
 rw[<-l,<-m];simp only[AU];generalize sg e (val a)=x at*;generalize sg f (val b)=y at*;cases x<;>cases y
 ·refine rB ?_;refine .inl ⟨_,g,?_⟩;simp -implicitDefEqProofs[jJ,-qA,-qB,-qC,-qD,-qE,LG];rw[jgz]
 ·have:=v rfl;simp -implicitDefEqProofs[jJ,-qA,-qB,-qC,-qD,-qE,LG];unfold Nk;rw[if_neg O,if_pos O]
 ·have:=t rfl;simp -implicitDefEqProofs[jJ,-qA,-qB,-qC,-qD,-qE,LG];unfold Nk;rw[if_pos O]
 ·refine rB ?_;refine .inl ⟨_,i,?_⟩;simp -implicitDefEqProofs[jJ,-qA,-qB,-qC,-qD,-qE,LG];rw[jlJ]
theorem IK(h:n<18446744073709551616):(limbs n).length<=4:=(GE n).2 h
theorem QK:65536^8=340282366920938463463374607431768211456:=O1
theorem BP(h:n<340282366920938463463374607431768211456):(limbs n).length<=8:=Ew n 8 (by rw[QK];exact h)
theorem Cp(a b:List Nat)(e:Ok a)(f:Ok b):(limbs (val a*val b)).length<=a.length+b.length:=by
 apply Ew;rw[Nat.pow_add];exact Nat.mul_lt_mul'' (Bz a e) (Bz b f)
theorem jac[DrC](a b:List Nat)(j:Ok a)(t:a.length<=70368744177664)(k:Ok b)(v:b.length<=70368744177664)(f:val a<18446744073709551616)(r:val b<18446744073709551616)(e:val b≠0):
  CallsF prog 210 [.c (Ad a),.c (Ad b)] (.tup [.c (.d (Ad (limbs (val a/val b)))),.c (.d (Ad (limbs (val a%val b)))),.c (.d (.int .i64 0))]):=by
 refine oB func210 ?_;refine aB (CM a j O) ?_;refine Ac (CM b k O) ?_;have l:=IK f;have o:=IK r;have g:=OX (limbs (val a)) (Aw _) l;have i:=OX (limbs (val b)) (Aw _) o;rw[Az]at g i;have w:limbs (val b)≠[]:=λh=>e (limbs_nil.1 h);clear t v j k;generalize val a=m at*;generalize val b=n at*;have p:m/n%18446744073709551616=m/n:=AX (aD (Nat.div_le_self _ _) f);have q:m%n<18446744073709551616:=aD (aI _ _) f;simp -implicitDefEqProofs[jJ,-qA,-qB,-qC,-qD,-qE,w,l,o];refine aB g ?_;refine Ac i ?_;refine rB2 e p ?_;refine aB (C6 (m/n) O) ?_;refine aB g ?_;refine aB1 e i ?_;refine Ac (C6 (m%n) q) ?_;exact kB
theorem jtL[DrC](a b:List Nat)(i:Ok a)(o:a.length<=70368744177664)(j:Ok b)(q:b.length<=70368744177664)(k:val a<18446744073709551616)(l:val b<18446744073709551616):
  CallsF prog 209 [.c (Ad a),.c (Ad b)] (.u (.c (.d (Ad (limbs (aH (val a) (val b))))))):=by
 refine oB func209 ?_;refine aB (CM a i O) ?_;refine aB (CM b j O) ?_;clear o q i j;generalize val a=m at*;generalize val b=n at*;refine AV (λp:Nat×Nat=>⟨[(0,vC (.d (Ad (limbs p.1)))),(1,vC (.d (Ad (limbs p.2))))],[]⟩) (λp=>aH p.1 p.2=aH m n/\p.1<18446744073709551616/\p.2<18446744073709551616) (λp=>p.2) (m,n) O1 ⟨rfl,k,l⟩ ?_;rintro⟨x,y⟩ ⟨g,e,f⟩;simp only at g e f;by_cases h:y=0
 ·subst h;simp -implicitDefEqProofs[jJ,-qA,-qB,-qC,-qD,-qE,Cm];rw[<-g,Nat.gcd_zero_right]
 ·have r:0<(limbs y).length:=limbs_pos_len.2 O;have t:=IK e;have v:=IK f;have d:=jac (limbs x) (limbs y) (Aw _) O (Aw _) O (by rw[Az];exact e) (by rw[Az];exact f) (by rw[Az];exact h);rw[Az,Az]at d;refine rB1 r ?_;refine aB d ?_;refine⟨y,x%y,⟨rfl,rfl⟩,⟨?_,f,aD (aI _ _) e⟩,Nat.mod_lt _ O⟩;rw[aG,<-Nat.gcd_rec,aG,g]
end Go.Va
