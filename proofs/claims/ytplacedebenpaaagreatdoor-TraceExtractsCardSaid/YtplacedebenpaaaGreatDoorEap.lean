/- a part of the proof -/
import Derived.Test.YtplacedebenpaaaGreatDoorEao
set_option linter.all false
set_option maxHeartbeats 4000000
set_option maxRecDepth 10000
namespace Go.Va
open _root_.Nat renaming mul_comm → aD, add_mul_div_left → aH, mul_assoc → aI, mul_add → aL, div_add_mod → aM, sub_self → aO, mod_lt → aR
open _root_.List renaming map_set → aG, length_pos_iff → aJ, replicate → aN, map → aP
open Int renaming natCast_add → qA, natCast_mul → qB, natCast_emod → qC, natCast_ediv → qD, natCast_pow → qE
open Go.Proofs Go.Proofs.Tryz
def rl(s:Nat):List Nat->List Nat
 |[]=>[]
 |x::a=>(x+65536*a.headD 0)/2^s%65536::rl s a
theorem Pd{s:Nat}(j:s<16): ∀a:List Nat,Ok a->Ok (rl s a)/\val (rl s a)=val a/2^s/\(rl s a).length=a.length
 |[],_=>⟨Ok.nil,by simp[rl,val],rfl⟩
 |x::a,h=>by
  obtain⟨G,H,I⟩:=Pd j a h.tail;have v:=h.head;refine⟨Ok.cons (aR _ O) G,?_,by simp[rl,I]⟩;rw[rl,val,H,val];have f:=Ff j;have e:65536=2^s*2^(16 - s):=by rw[<-Nat.pow_add,show s+(16 - s)=16 by omega]
  have J:0<2^(16 - s):=Nat.pow_pos O;have F:=J7 a;generalize a.headD 0=y at*;generalize val a.tail=m at*;generalize 2^(16 - s)=E at*;generalize 2^s=D at*;have b: ∀k,65536*k=D*(E*k):=λk=>by rw[<-aI,<-e]
  have d1:(x+65536*val a)/D=x/D+E*val a:=by rw[b,aH _ _ f.1]
  have l:(x+65536*y)/D=x/D+E*y:=by rw[b,aH _ _ f.1]
  rw[d1,l];have r:=aM (val a) D;have t:=aR (val a) f.1;have g:y%D=val a%D:=by
   rw[F,b,Nat.add_mul_mod_self_left]
  have i:=aM y D;rw[g]at i;have w:x/D<E:=by
   rw[Nat.div_lt_iff_lt_mul f.1,aD,<-e];exact v
  have o:E*val a=65536*(val a/D)+E*(val a%D):=by
   conv=>lhs;rw[<-r]
   rw[aL,<-aI,aD E D,<-e]
  have p:E*y=65536*(y/D)+E*(val a%D):=by
   conv=>lhs;rw[<-i]
   rw[aL,<-aI,aD E D,<-e]
  have q:E*(val a%D+1)<=E*D:=Nat.mul_le_mul_left _ t;rw[aL,Nat.mul_one,aD E D,<-e]at q;rw[o,p];generalize E*(val a%D)=z at*;generalize val a/D=A at*;generalize y/D=B at*;generalize x/D=X at*;omega
theorem UF(s:Nat): ∀(a:List Nat) (i:Nat) (h:i<a.length),(rl s a)[i]? =some ((a[i]+65536*a.getD (i+1) 0)/2^s%65536)
 |x::a,0,_=>by
  cases a<;>simp[rl]
 |x::a,i+1,h=>by
  have:=UF s a i (by simpa using h);simpa [rl]using this
theorem jke(x y:Nat)(a:x<65536)(b:y<65536):Da .u32 (x:Int) (CW .u32 (y:Int) 16)=((x+65536*y:Nat):Int):=by
 have e:CW .u32 (y:Int) 16=((65536*y:Nat):Int):=by
  have:=Lu y 16 O;rw[show(2:Nat)^16=65536 from by decide,AX O,aD]at this;exact this
 rw[e,Rf _ _ O O];have:=IM x y 16 O;rw[show(2:Nat)^16=65536 from by decide]at this;rw[this]
theorem jkN[DrC](a:List Nat)(s:Nat)(l:Ok a)(I:a.length<=1000)(p:a≠[])(x:s<16):
  CallsF prog 386 [.c (Ad a),.c (.int .i64 s)] (.u (.c (.d (Ad (limbs (val a/2^s)))))):=by
 have q:0<a.length:=aJ.2 p;obtain⟨v1,v2,j⟩:=Pd x a l;have o:=Q1 (rl s a) v1 O;rw[v2]at o;obtain⟨W,hW0,hWn,hWl,hst⟩: ∃W:Nat->List Nat,W 0=aN a.length 0/\W a.length=rl s a/\(∀i,i<=a.length->(W i).length=a.length)/\ ∀i (h:i<a.length),(W i).set i ((a[i]+65536*a.getD (i+1) 0)/2^s%65536)=W (i+1):=by
  refine⟨λi=>(rl s a).take i++aN (a.length - i) 0,O1,by simp only[aO,List.replicate_zero,List.append_nil];exact Ba O,λi hi=>by simp[j];omega,λi h=> ?_⟩;have g:=UF s a i h;simp only;rw[List.set_append_right _ _ (by simp[j];omega),A8,j,Bs O,aO,show a.length - i=(a.length - (i+1))+1 by omega,List.replicate_succ,Cr (by omega:i<(rl s a).length)];rw[AD O]at g;rw[Bi g];simp
 rw[<-hWn]at o;have G:(s:Int).tdiv 16=0:=by
  rw[Int.tdiv_eq_ediv_of_nonneg O];omega
 have H:(s:Int).tmod 16=s:=by
  rw[Int.tmod_eq_emod_of_nonneg O];omega
 have J:s/16=0:=O;have K:s%16=s:=O;clear v1 v2 j;refine cO func386 rfl ?_;simp -implicitDefEqProofs[jJ,-qA,-qB,-qC,-qD,-qE,-aG,G,H,p];refine⟨O,O,?_⟩;refine AV (λi:Nat=>⟨[(25,vI .i64 i),(24,vI .i64 a.length),(7,vC (.sl 22 0 a.length)),(6,vI .i64 s),(5,vI .i64 0),(0,vC (.d (Ad a)))],[(22,.row 1 ((W i).map u16) true)]⟩) (λi=>i<=a.length) (λi=>a.length - i) 0
  (by simp[AW,lk,St.le,vI,vC,hW0,u16]) O ?_
 rintro i hi;have t:=hWl i hi;by_cases h:i<a.length
 ·have y:a[i]<65536:=l _ (AZ h);have b:=hst i h;have r:a[i]%4294967296=a[i]:=AX O;by_cases f:i+1<a.length
  ·have z:a[i+1]<65536:=l _ (AZ f);have k:a.getD (i+1) 0=a[i+1]:=by rw[AL,AD f];rfl
   rw[k]at b;have E:a[i+1]%4294967296=a[i+1]:=AX O;have F:=jke a[i] a[i+1] y z;have e:=Lf .u32 (a[i]+65536*a[i+1]) s (by show s<=32;omega);simp -implicitDefEqProofs[jJ,-qA,-qB,-qC,-qD,-qE,-aG,h,f,r,E,F,e,u16];refine⟨O,O,O,O,O,O,i+1,⟨rfl,?_⟩,O,O⟩;rw[Ck _ _ _ O,b]
  ·have k:a.getD (i+1) 0=0:=by rw[AL,B9 O];rfl
   rw[k,Nat.mul_zero,Nat.add_zero]at b;have e:=Lf .u32 a[i] s (by show s<=32;omega);simp -implicitDefEqProofs[jJ,-qA,-qB,-qC,-qD,-qE,-aG,h,f,r,e,u16];refine⟨O,O,O,O,i+1,⟨rfl,?_⟩,O,O⟩;rw[Ck _ _ _ O,b]
 ·have m:i=a.length:=O;subst m;have w:List.take a.length (aP u16 (W a.length))=aP u16 (W a.length):=Ba (by simp[t]);have v:D.slice a.length (aP u16 (W a.length))=Ad (W a.length):=by
   show _=D.slice (W a.length).length _;rw[t]
  refine rC2 w v ?_;refine .inl ⟨O,_,o,?_⟩;exact kC
theorem jh2[DrC](a:List Nat)(s:Nat)(h:Ok a)(v:a.length<=1000)(g:0<s)(p:s<16):
  CallsF prog 366 [.c (Ad a),.c (.int .i64 (-(s:Int)))] (.u (.c (.d (Ad (limbs (val a/2^s)))))):=by
 have i:=Q1 a h O;have m:=Bu a h;have o:=Aw (val a);have q:=Az (val a);generalize limbs (val a)=b at*;rw[<-q];have w:(-(s:Int))<0:=O;have j: ¬(-(s:Int))< -1048576:=O;have k: ¬1048576<(-(s:Int)):=O;by_cases f:b=[]
 ·subst f;have e:limbs (val ([]:List Nat)/2^s)=[]:=by simp[val,limbs];rfl
  rw[e];refine oC func366 ?_;refine Ac i ?_;refine rC2 j k ?_;rfl
 ·have r:=jkN b s o O f p;have l:0<b.length:=aJ.2 f;have t: -(-(s:Int))=s:=O;refine oC func366 ?_;refine Ac i ?_;simp -implicitDefEqProofs[jJ,-qA,-qB,-qC,-qD,-qE,-aG,j,k,f,t,g];refine⟨O,?_⟩;refine Ac r ?_;exact kC
end Go.Va
namespace Go.Va
open _root_.Nat renaming div_lt_iff_lt_mul → aD, mul_comm → aG, add_zero → aI, mul_zero → aJ, mul_le_mul_left → aL, lt_of_mul_lt_mul_right → aN, div_add_mod → aO, one_mul → aP, le_div_iff_mul_le → aR, eq_zero_or_pos → aT, add_mul → aW, mul_le_mul → aZ, mul_assoc → a7, sub_self → a8, sub_mul → bA, mul_add → bB, mod_lt → bC
open _root_.List renaming take_append_drop → aH, replicate → aM, mem_of_mem_drop → aS, length_append → aU, length_drop → aX, drop_append → aY, drop_zero → a6
def Fu(q r w2 v2:Nat):Bool:=decide (65536<=q)||decide (r*65536+w2<q*v2)
def D7(v1 w2 v2:Nat):Nat->Nat->Nat->Nat×Nat
 |0,q,r=>(q,r)
 |k+1,q,r=>if r<65536/\Fu q r w2 v2=true then D7 v1 w2 v2 k (q - 1) (r+v1) else (q,r)
variable{q:Nat}{w u:List Nat}
section
variable {W V high v1 v2 w2 low vlow p:Nat}
theorem QI(e:W=high*(65536*p)+w2*p+low)(i:V=v1*(65536*p)+v2*p+vlow)(j:low<p)(k:w2<65536)(a:0<v1):W/V<=high/v1:=by
 rw[aR a];have f:W/V*V<=W:=Nat.div_mul_le_self W V;generalize W/V=Q at*;have g:Q*(v1*(65536*p))<=Q*V:=aL _ O;have h:W<(high+1)*(65536*p):=by
  rw[e,aW,aP];have:w2*p<=65535*p:=BC _ O;omega
 have b:Q*v1*(65536*p)<(high+1)*(65536*p):=O3;have:=aN b;omega
theorem jaR(j:W=high*(65536*p)+w2*p+low)(i:V=v1*(65536*p)+v2*p+vlow)(k:low<p)(b:W<65536*V)(a:0<V){r:Nat}(e:q*v1+r=high)(hg:Fu q r w2 v2=true):W/V<q:=by
 rw[aD a];unfold Fu at hg;simp only[Bool.or_eq_true,decide_eq_true_eq]at hg;rcases hg with hg|hg
 ·exact Nat.lt_of_lt_of_le b (BC _ hg)
 ·have f:q*V=q*v1*(65536*p)+q*v2*p+q*vlow:=by
   grind
  have g:(r*65536+w2+1)*p<=q*v2*p:=BC _ hg;have h:high*(65536*p)=q*v1*(65536*p)+r*(65536*p):=O3;grind
theorem jin(x:W=high*(65536*p)+w2*p+low)(w:V=v1*(65536*p)+v2*p+vlow)(y:vlow<p)(k:v2<65536)(a:0<V)(e:0<v1){r:Nat}(j:q*v1+r=high)(i:q<=65537)(hg:65536<=r\/Fu q r w2 v2=false):q<=W/V+1:=by
 rcases aT q with h0|h0
 ·grind
 have l:q*V<=W+V:=by
  have o:q*V=q*v1*(65536*p)+q*v2*p+q*vlow:=by
   grind
  have t:high*(65536*p)=q*v1*(65536*p)+r*(65536*p):=O3;have h:65536*p<=V:=by
   have:1*(65536*p)<=v1*(65536*p):=BC _ e;omega
  rcases hg with hg|hg
  ·have f:65536*(65536*p)<=r*(65536*p):=BC _ hg;have g:q*v2*p+q*vlow<=65537*(65536*p):=by
    have b:v2*p+vlow<=65536*p:=by
     have:v2*p<=65535*p:=BC _ O;omega
    have m:q*(v2*p+vlow)<=65537*(65536*p):=aZ i b;grind
   omega
  ·unfold Fu at hg;simp only[Bool.or_eq_false_iff,decide_eq_false_iff_not]at hg;have f:q*v2*p<=(r*65536+w2)*p:=BC _ O;have v:(r*65536+w2)*p=r*(65536*p)+w2*p:=O3;have g:q*vlow<=65536*p:=aZ O O;omega
 have:(q - 1)*V<=W:=by
  rw[bA,aP];omega
 have:=(aR a).2 this;omega
theorem K8(h:W=high*(65536*p)+w2*p+low)(g:V=v1*(65536*p)+v2*p+vlow)(o:low<p)(f:vlow<p)(e:v2<65536)(l:W<65536*V)(a:0<V)(j:0<v1):
  ∀(k q r:Nat),q*v1+r=high->q<=65537->W/V<=q->q<k->W/V<=(D7 v1 w2 v2 k q r).1/\(D7 v1 w2 v2 k q r).1<=W/V+1
 |0,q,r,_,_,_,w=>O
 |k+1,q,r,b,x,i,w=>by
  unfold D7;split
  ·rename_i m;have v:=jaR h g o l a b m.2;have t:=Nat.zero_le (W/V);refine K8 h g o f e l a j k (q - 1) (r+v1) ?_ O O O;have:q*v1=(q - 1)*v1+v1:=by
    rw[bA,aP];have:1*v1<=q*v1:=BC _ O;omega
   omega
  ·rename_i m;refine⟨i,jin h g f e a j b x ?_⟩;grind
theorem Ni(k:W=high*(65536*p)+w2*p+low)(b:V=v1*(65536*p)+v2*p+vlow)(f:vlow<p)(e:v2<65536)(j:W<65536*V)(l:32768<=v1)(m:0<p):high/v1<=65537:=by
 have g:V<(v1+1)*(65536*p):=by
  rw[b,aW,aP];have:v2*p<=65535*p:=BC _ O;omega
 have a:high*(65536*p)<65536*(v1+1)*(65536*p):=by
  have:65536*V<=65536*((v1+1)*(65536*p)):=aL _ O;rw[a7];omega
 have h:=aN a;have i:high/v1<65538:=by
  rw[aD O];omega
 omega
end
theorem jkb(f:q<=65536){v:List Nat}(j:Ok w)(i:Ok v)(a:w.length=v.length+1):(subL q w v 0 0).2.2=0:=by
 obtain⟨u,x,rfl⟩: ∃u x,w=u++[x]:=by
  rcases List.eq_nil_or_concat w with rfl|⟨l,x,rfl⟩
  ·simp at a
  simp
 have b:u.length=v.length:=by simpa using a
 have g:Ok u:=λy k=>j y (by simp[k]);have h:=GO f u v 0 0 g i O O O;rw[MU];have e:v.getD u.length 0=0:=O3;rw[e];unfold subS;simp only[aJ,aI];have:=h.2.2.1;split<;>(simp only;omega)
def EA(w v:List Nat)(q:Nat):Nat×List Nat:=
 if 0<(subL q w v 0 0).2.1 then (q - 1,(Ap (subL q w v 0 0).1 v 0).1) else (q,(subL q w v 0 0).1)
theorem jby{v:List Nat}(p:Ok w)(f:Ok v)(F:w.length=v.length+1)(i:0<val v)(N:val w<65536*val v)(K:val w/val v<=q)(L:q<=val w/val v+1):
  (EA w v q).1=val w/val v/\val (EA w v q).2=val w%val v/\Ok (EA w v q).2/\(EA w v q).2.length=w.length:=by
 have o:q<=65536:=by
  have:val w/val v<65536:=by simp_all[aD]
  omega
 have E:=jkb o p f F;obtain⟨r,X,Y,g⟩:=GO o w v 0 0 p f O O O;have sl:=EE q w v 0 0;rw[E]at g;have H:=aO (val w) (val v);have G:=bC (val w) i;have I:=Bz v f;have a:65536^w.length=65536*65536^v.length:=O3;have e:=Bz _ r;rw[sl]at e;unfold EA;generalize T:subL q w v 0 0=S at*;obtain⟨h,b,c⟩:=S;simp only at*;obtain⟨m,J,t⟩:=UR h v 0 r f O O;have x:=G5 h v 0;have j:=Bz _ m;rw[x,sl,a]at j;rw[sl,a]at t;generalize y:val w/val v=Q at*;generalize val w%val v=M at*;have k:q=Q\/q=Q+1:=O;rw[a]at g e;generalize 65536^v.length=P at*;rw[aG (val v) Q]at H;rcases k with rfl|rfl
 ·grind
 ·have l:(Q+1)*val v=Q*val v+val v:=O3;rw[l]at g;have z:b=1:=by
   grind
  subst z;rw[if_pos O];refine⟨by simp only;omega,?_,m,O3⟩;simp only;simp only[Int.natCast_add,Int.natCast_mul]at g;have W:(Ap h v 0).2=0\/(Ap h v 0).2=1:=O;grind
theorem Hm{v:List Nat}{n:Nat}(g:v.length=n)(h:2<=n)(f:Ok v):val v=v.getD (n - 1) 0*(65536*65536^(n - 2))+v.getD (n - 2) 0*65536^(n - 2)+val (v.take (n - 2))/\val (v.take (n - 2))<65536^(n - 2):=by
 have e:v=v.take (n - 2)++[v.getD (n - 2) 0,v.getD (n - 1) 0]:=by
  have b:v.drop (n - 2)=[v.getD (n - 2) 0,v.getD (n - 1) 0]:=by
   rw[BQ O,BQ O,DU O];grind
  rw[<-b,aH]
 have a:=Bz _ (f.take (n - 2));rw[A8,Bs O]at a;refine⟨?_,a⟩
 conv=>lhs;rw[e]
 rw[CF,A8,Bs O];simp only[val];grind
theorem MD{n:Nat}(j:w.length=n+1)(l:2<=n)(b:Ok w):val w=(w.getD n 0*65536+w.getD (n - 1) 0)*(65536*65536^(n - 2))+w.getD (n - 2) 0*65536^(n - 2)+val (w.take (n - 2))/\val (w.take (n - 2))<65536^(n - 2):=by
 have h:=Hm (v:=w) (n:=n+1) j O b;have a:=Hm (v:=w.take n) (n:=n) O3 l (b.take n);have e:w=w.take n++[w.getD n 0]:=by
  have f:w.drop n=[w.getD n 0]:=by
   rw[BQ O,DU O];grind
  rw[<-f,aH]
 have g: ∀i,i<n->(w.take n).getD i 0=w.getD i 0:=O3;rw[g _ O,g _ O,List.take_take,Bs O]at a;refine⟨?_,a.2⟩
 conv=>lhs;rw[e]
 rw[CF,A8,Bs O,a.1];simp only[val];have m:65536^n=65536*(65536*65536^(n - 2)):=by
  have: ∀k,65536^(k+2)=65536*(65536*65536^k):=O3;grind
 grind
def CT(w v:List Nat):Nat×List Nat:=
 let n:=v.length;let high:=w.getD n 0*65536+w.getD (n - 1) 0
 EA w v (D7 (v.getD (n - 1) 0) (w.getD (n - 2) 0) (v.getD (n - 2) 0) 65538 (high/v.getD (n - 1) 0) (high%v.getD (n - 1) 0)).1
theorem jii{v:List Nat}(o:Ok w)(m:Ok v)(f:w.length=v.length+1)(r:2<=v.length)(E:32768<=v.getD (v.length - 1) 0)(j:val w<65536*val v):
  (CT w v).1=val w/val v/\val (CT w v).2=val w%val v/\Ok (CT w v).2/\(CT w v).2.length=w.length:=by
 obtain⟨g,t⟩:=Hm rfl r m;obtain⟨h,x⟩:=MD f r o;have F:0<65536^(v.length - 2):=O;have b:0<val v:=by
  omega
 have q: ∀(l:List Nat) i,Ok l->l.getD i 0<65536:=λl i f=>by
  rcases Nat.lt_or_ge i l.length with hi|hi
  ·rw[AL,AD hi];exact f _ O1
  grind
 have p:=q w (v.length - 2) o;have e:=q v (v.length - 2) m;have y:=QI h g x p O;have z:=Ni h g t e j E F;have k:(w.getD v.length 0*65536+w.getD (v.length - 1) 0)/v.getD (v.length - 1) 0*v.getD (v.length - 1) 0+(w.getD v.length 0*65536+w.getD (v.length - 1) 0)%v.getD (v.length - 1) 0=w.getD v.length 0*65536+w.getD (v.length - 1) 0:=by
  grind[aG,aO]
 have a:=K8 h g x t e j b O 65538 _ _ k z y O;exact jby o m f b j a.1 a.2
def Cs(u v:List Nat):Nat->List Nat×List Nat
 |0=>(u,aM (u.length - v.length) 0)
 |k+1=>(splice (u.length - v.length - 1 - k) (CT (cut (u.length - v.length - 1 - k) (v.length+1) (Cs u v k).1) v).2 (Cs u v k).1,(Cs u v k).2.set (u.length - v.length - 1 - k) (CT (cut (u.length - v.length - 1 - k) (v.length+1) (Cs u v k).1) v).1)
structure StL (u v:List Nat) (k:Nat) (U O:List Nat):Prop where
 ou:Ok U
 lu:U.length=u.length
 oo:Ok O
 lo:O.length=u.length - v.length
 eq:val u=val O*val v+val U
 lt:val (U.drop (u.length - v.length - k))<val v
 zero: ∀i,i<u.length - v.length - k->O.getD i 0=0
theorem Sf: ∀(l:List Nat) (i x:Nat),i<l.length->l.getD i 0=0->val (l.set i x)=val l+x*65536^i
 |[],i,x,h,_=>by simp at h
 |a::l,0,x,_,b=>by
  simp at b;subst b;simp[val];omega
 |a::l,i+1,x,h,b=>by
  have e:=Sf l i x (by simpa using h) (by simpa using b);rw[List.set_cons_succ,val,val,e,Nat.pow_succ,bB,aG (65536^i),Nat.mul_left_comm x];omega
theorem Vz{l:List Nat}(h:Ok l)(i x:Nat)(a:x<65536):Ok (l.set i x):=λy b=>by
 rcases List.mem_or_eq_of_mem_set b with h1|h1
 ·exact h y h1
 ·rw[h1];exact a
theorem ok_app{a b:List Nat}(e:Ok a)(f:Ok b):Ok (a++b):=λy g=>by
 rcases List.mem_append.1 g with h|h
 ·exact e y h
 ·exact f y h
theorem Pj{v:List Nat}(K:Ok v)(P:2<=v.length)(N:32768<=v.getD (v.length - 1) 0){k:Nat}(hk:k<u.length - v.length){U b:List Nat}(h:StL u v k U b):
  let j:=u.length - v.length - 1 - k;let r:=CT (cut j (v.length+1) U) v
  StL u v (k+1) (splice j r.2 U) (b.set j r.1)/\val (cut j (v.length+1) U)<65536*val v/\(cut j (v.length+1) U).length=v.length+1/\Ok (cut j (v.length+1) U)/\r.1<65536:=by
 intro j r;have hj:j=u.length - v.length - 1 - k:=rfl;have I:=h.lu;generalize q:cut j (v.length+1) U=w at*;have Q:r=CT w v:=by rw[<-q]
 have m:w.length=v.length+1:=by
  rw[<-q];unfold cut;rw[A8,aX];omega
 have F:Ok w:=by
  rw[<-q];exact λy E=>h.ou y (aS (List.mem_of_mem_take E))
 have H:U=U.take j++(w++U.drop (j+v.length+1)):=by
  rw[<-q];unfold cut;have L:(U.drop j).drop (v.length+1)=U.drop (j+v.length+1):=by rw[List.drop_drop];rfl
  rw[<-L,aH,aH]
 have l:(U.take j).length=j:=by rw[A8];omega
 have e:=h.lt;rw[show u.length - v.length - k=j+1 by omega]at e;have M:U.drop (j+1)=w.tail++U.drop (j+v.length+1):=by
  conv=>lhs;rw[H]
  rw[aY,l,DU (by omega:(U.take j).length<=j+1),show j+1 - j=1 by omega];cases w with
  |nil=>simp at m
  |cons a w=>simp
 have W:w.tail.length=v.length:=by rw[List.length_tail];omega
 rw[M,CF,W]at e;have S:=Bz v K;have p:val (U.drop (j+v.length+1))=0:=by
  rcases aT (val (U.drop (j+v.length+1)))with h0|h0
  ·exact h0
  ·have:65536^v.length*1<=65536^v.length*val (U.drop (j+v.length+1)):=aL _ h0;omega
 rw[p,aJ,aI]at e;have x:val w<65536*val v:=by
  have:=J7 w;have h0:=LJ F;omega
 obtain⟨d1,t,G,d4⟩:=jii F K m P N x;rw[<-Q]at d1 t G d4;have f:0<val v:=O;have J:r.1<65536:=by rw[d1,aD f];exact x
 have o:splice j r.2 U=U.take j++(r.2++U.drop (j+v.length+1)):=by
  unfold splice;rw[d4,m,List.append_assoc];rfl
 have g:=aO (val w) (val v);rw[<-d1,<-t]at g;have Z:val U=val (U.take j)+65536^j*val w:=by
  conv=>lhs;rw[H]
  rw[CF,l,CF,p,aJ,aI]
 have Y:val (splice j r.2 U)=val (U.take j)+65536^j*val r.2:=by
  rw[o,CF,l,CF,p,aJ,aI]
 have T:=h.zero j O;have z:j<b.length:=by rw[h.lo];omega
 have X:=Sf b j r.1 z T;refine⟨⟨?_,?_,Vz h.oo _ _ J,by rw[List.length_set];exact h.lo,?_,?_,λi hi=> ?_⟩,x,m,F,J⟩
 ·rw[o];exact ok_app (h.ou.take j) (ok_app G λy E=>h.ou y (aS E))
 ·rw[o,aU,aU,l,d4,m,aX];omega
 ·rw[h.eq,Z,Y,X,<-g,aW,bB];have:65536^j*(val v*r.1)=r.1*65536^j*val v:=by
   rw[aG (val v),<-a7,aG (65536^j)]
  omega
 ·rw[show u.length - v.length - (k+1)=j by omega,o];rw[aY,l,DU (by omega:(U.take j).length<=j),a8,List.nil_append,a6,CF,p,aJ,aI,t];exact bC _ f
 ·rw[AL,List.getElem?_set_ne O,<-AL];exact h.zero i O
theorem Gj{u v:List Nat}(f:Ok u)(g:Ok v)(b:2<=v.length)(a:32768<=v.getD (v.length - 1) 0)(h:v.length<u.length)(e:val (u.drop (u.length - v.length))<val v): ∀k,k<=u.length - v.length->StL u v k (Cs u v k).1 (Cs u v k).2
 |0,_=>by
  have l:val (aM (u.length - v.length) 0)=0:=by
   generalize u.length - v.length=m
   induction m with
   |zero=>rfl
   |succ m o=>rw[List.replicate_succ,val,o]
  refine⟨f,rfl,λy j=> ?_,by simp[Cs],?_,by simpa [Cs]using e,λi hi=> ?_⟩
  ·have:=List.eq_of_mem_replicate j;omega
  ·show val u=val (aM (u.length - v.length) 0)*val v+val u;rw[l];omega
  ·show(aM (u.length - v.length) 0).getD i 0=0;rw[AL,List.getElem?_replicate];split<;>rfl
 |k+1,p=>(Pj g b a O (Gj f g b a h e k O)).1
theorem K9{v:List Nat}(k:Ok u)(l:Ok v)(i:2<=v.length)(e:32768<=v.getD (v.length - 1) 0)(g:v.length<u.length)(j:val (u.drop (u.length - v.length))<val v):
  val (Cs u v (u.length - v.length)).2=val u/val v/\val (Cs u v (u.length - v.length)).1=val u%val v:=by
 have h:=Gj k l i e g j _ (AO _);generalize (Cs u v (u.length - v.length)).1=U at*;generalize (Cs u v (u.length - v.length)).2=a at*;have b:=h.lt;rw[a8,a6]at b;rw[h.eq];have f:0<val v:=O;constructor
 ·rw[aG,Nat.mul_add_div f,Nat.div_eq_of_lt b,aI]
 ·rw[aG,Nat.mul_add_mod,AX b]
end Go.Va
