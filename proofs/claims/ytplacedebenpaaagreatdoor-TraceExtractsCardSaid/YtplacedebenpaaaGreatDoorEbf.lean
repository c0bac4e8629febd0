/- a part of the proof -/
import Derived.Test.YtplacedebenpaaaGreatDoorEbe
import Derived.Test.YtplacedebenpaaaGreatDoorEbb
import Derived.Test.YtplacedebenpaaaGreatDoorEat
import Derived.Test.YtplacedebenpaaaGreatDoorEbd
import Derived.Test.YtplacedebenpaaaGreatDoorEau
import Derived.Test.YtplacedebenpaaaGreatDoorEas
import Derived.Test.YtplacedebenpaaaGreatDoorEba
set_option linter.all false
set_option maxHeartbeats 4000000
set_option maxRecDepth 100000
namespace Go.Va
open _root_.List renaming mem_iff_getElem → aD, pairwise_iff_getElem → aG, mem_append → aH
variable{nl:List Fct}{l:List Fnd}{m d e:List Nat}{k:Int}{n:Bool}
theorem jvJ(b:Bnd)(c:UInt8):QT b c=if 97<=c.toNat then [(b.get c).1 - 1,(b.get c).2 - 1] else [(b.get c).1 - 1]:=by
 unfold QT Bnd.get;split<;>rfl
theorem isCmp_G':IsCmp (λ_:Grd=>True) cmpG:=⟨λx y _ _=>isCmp_K.rng _ _ trivial trivial,λx y _ _=>isCmp_K.anti _ _ trivial trivial,λx y z _ _ _=>isCmp_K.tr _ _ _ trivial trivial trivial⟩
theorem isCmp_lexG:IsCmp (λ_=>True) KY where
 rng:=by
  intro x
  induction x with
  |nil=>intro y _ _;cases y<;>simp[KY]
  |cons a x e=>
   intro y _ _;cases y with
   |nil=>simp[KY]
   |cons b y=>
    have h:=isCmp_G'.rng a b trivial trivial;have f:=e y trivial trivial;grind[KY]
 anti:=by
  intro x
  induction x with
  |nil=>intro y _ _;cases y<;>simp[KY]
  |cons a x e=>
   intro y _ _;cases y with
   |nil=>simp[KY]
   |cons b y=>
    have h:=isCmp_G'.anti a b trivial trivial;have f:=e y trivial trivial;grind[KY]
 tr:=by
  intro x
  induction x with
  |nil=>intro y z _ _ _;cases y<;>cases z<;>simp[KY]
  |cons a x e=>
   intro y z _ _ _;cases y with
   |nil=>grind[KY]
   |cons b y=>
    cases z with
    |nil=>simp[KY]
    |cons c z=>
     have f:=e y z trivial trivial trivial;have t:=isCmp_G'.tr a b c trivial trivial trivial;have q:=isCmp_G'.tr c b a trivial trivial trivial;have m:=isCmp_G'.anti a b trivial trivial;have o:=isCmp_G'.anti b c trivial trivial;have p:=isCmp_G'.anti a c trivial trivial;simp only[KY];by_cases g:cmpG a b=0<;>by_cases j:cmpG b c=0<;>by_cases i:cmpG a c=0<;>simp only[g,j,i,ne_eq,not_true_eq_false,not_false_eq_true,if_false,if_true]<;>intro k l
     ·exact f k l
     all_goals first
      |(have:=t O O;exact⟨O,λh=>by first|exact h.elim|omega⟩)
      |exact⟨O,λh=>by first|exact h.elim|omega⟩
theorem jmO: ∀(x y:List Grd),KY x y=0↔x=y
 |[],[]=>by simp[KY]
 |[],_::_=>by simp[KY]
 |_::_,[]=>by simp[KY]
 |a::x,b::y=>by
  have:=jmO x y;unfold KY;split
  ·rename_i h;constructor
   ·omega
   ·intro f;simp at f;exact absurd (cmpG_zero.2 f.1) h
  ·rename_i h;rw[this];have e:a=b:=cmpG_zero.1 O;simp[e]
theorem jhX(a:List Grd):KZ a a=false:=by
 unfold KZ;rw[if_neg O1,(jmO a a).2 rfl];rfl
theorem jqu{a b c:List Grd}(e:KZ a b=true)(f:KZ b c=true):KZ a c=true:=by
 unfold KZ at*;have t:=isCmp_lexG.tr a b c trivial trivial trivial;grind
theorem jBL{a b:List Grd}(f:KZ a b=false)(g:KZ b a=false):a=b:=by
 unfold KZ at*;have h:=isCmp_lexG.anti a b trivial trivial;by_cases e:a.length=b.length
 ·rw[if_neg O]at f g;grind[decide_eq_false_iff_not,jmO]
 grind
def Rh(nl:List Fct)(P:List Fo)(f:Fct)(g:List Grd):Prop:=(∃x∈P,normF x.1=f/\x.2=g)/\ ¬(f.kind=0\/RQ f=true\/QD f nl=true)
structure Least (nl:List Fct) (P:List Fo) (l:List Fnd):Prop where
 sub: ∀x∈l,Rh nl P x.fact x.grds
 top: ∀f g,Rh nl P f g-> ∃x∈l,x.fact=f/\KZ g x.grds=false
theorem jAv{P:List Fo}(v:FndOk l)(h:Least nl P l)(x:Fo)(K:(normF x.1).kind≠0->(normF x.1).Rt):Least nl (P++[x]) (Ux nl l (normF x.1) x.2):=by
 have q: ∀{f g},Rh nl P f g->Rh nl (P++[x]) f g:=λ⟨⟨y,hy,e⟩,h⟩=>⟨O3,h⟩
 have p: ∀{f g},Rh nl (P++[x]) f g->Rh nl P f g\/(normF x.1=f/\x.2=g):=λ⟨⟨y,hy,e⟩,h⟩=>by
  rcases aH.1 hy with hy|hy
  ·exact .inl ⟨⟨y,hy,e⟩,h⟩
  grind
 by_cases m:(normF x.1).kind=0\/RQ (normF x.1)=true\/QD (normF x.1) nl=true
 ·rw[ZE m];refine⟨λy hy=>q (h.sub y hy),λf g b=> ?_⟩;rcases p b with a|⟨rfl,rfl⟩
  ·exact h.top f g a
  ·exact absurd m b.2
 ·have t:=K λh=>m (.inl h);have I:Rh nl (P++[x]) (normF x.1) x.2:=⟨O1,m⟩
  rcases jfV (normF x.1) (l.map Fnd.fact) 0 with⟨hi,J⟩|⟨k,j,hi,w⟩
  ·rw[jl7 m hi];refine⟨λy hy=> ?_,λf g b=> ?_⟩
   ·rcases aH.1 hy with hy|hy
    ·exact q (h.sub y hy)
    grind
   ·rcases p b with a|⟨rfl,rfl⟩
    ·obtain⟨y,hy,e,r⟩:=h.top f g a;grind
    ·exact⟨⟨normF x.1,x.2⟩,O1,rfl,jhX _⟩
  ·rw[List.length_map]at j;rw[Nat.zero_add]at hi;rw[jr5 m j hi];rw[List.getElem_map]at w;have F:normF x.1=l[k].fact:=(WZ t (v.rt _ O1)).1 w;have z: ∀y∈l,y.fact=normF x.1->y=l[k]:=λy hy e=>by
    obtain⟨i,hi,rfl⟩:=aD.1 hy;have M:=aG.1 v.nd;grind
   by_cases r:KZ x.2 l[k].grds=true
   ·rw[if_pos r];refine⟨λy hy=> ?_,λf g b=> ?_⟩
    ·rcases List.mem_or_eq_of_mem_set hy with hy|rfl
     ·exact q (h.sub y hy)
     grind
    ·have o:(⟨l[k].fact,x.2⟩:Fnd)∈l.set k ⟨l[k].fact,x.2⟩:=List.mem_set j _;rcases p b with a|⟨rfl,rfl⟩
     ·obtain⟨y,hy,e,E⟩:=h.top f g a;by_cases L:y=l[k]
      ·refine⟨_,o,O3,?_⟩;rw[Bool.eq_false_iff];grind[jqu]
      ·obtain⟨i,G,rfl⟩:=aD.1 hy;have H:k≠i:=O3;grind[aD,List.getElem_set_ne]
     grind[jhX]
   ·rw[if_neg r];refine⟨λy hy=>q (h.sub y hy),λf g b=> ?_⟩;rcases p b with a|⟨rfl,rfl⟩
    ·exact h.top f g a
    grind
theorem joI{nl:List Fct}: ∀(Q P:List Fo) (l:List Fnd),FndOk l->Least nl P l->(∀x∈Q,Xn x)->Least nl (P++Q) (runF nl l Q)
 |[],P,l,_,h,_=>by rw[List.append_nil];exact h
 |x::Q,P,l,b,h,e=>by
  have a:=e x O1;have:=joI Q (P++[x]) (Ux nl l (normF x.1) x.2) (jqR b (NW a.1) a.2) (jAv b h x (NW a.1)) O3;rw[List.append_assoc]at this;exact this
theorem jo7{P:List Fo}(a: ∀x∈P,Xn x):Least nl P (runF nl [] P):=by
 have:=joI (nl:=nl) P [] [] .nil ⟨O1,λf g h=>by obtain⟨⟨x,b,_⟩,_⟩:=h;cases b⟩ a;exact this
theorem jqV{a:List Fct}{P m:List Fo}{r:List Fnd}(v:FndOk l)(h:Least nl P l)(o:Least a m r)(p: ∀f g,Rh nl P f g↔Rh a m f g): ∀x∈l,x∈r:=by
 intro x q;obtain⟨y,w,e,t⟩:=o.top _ _ ((p _ _).1 (h.sub x q));obtain⟨z,E,F,b⟩:=h.top _ _ ((p _ _).2 (o.sub y w));have k:z=x:=by
  obtain⟨i,hi,rfl⟩:=aD.1 q;obtain⟨j,L,rfl⟩:=aD.1 E;have M:=aG.1 v.nd;grind
 subst k;have K:=jBL t b;obtain⟨G,I⟩:=z;obtain⟨H,J⟩:=y;grind
theorem FndOk.nodup(h:FndOk l):l.Nodup:=h.nd.imp O3
theorem jA5{o:List Fct}{P p:List Fo}{m:List Fnd}(v:FndOk l)(a:FndOk m)(h:Least nl P l)(E:Least o p m)(G: ∀f g,Rh nl P f g↔Rh o p f g):Q0 UD l=Q0 UD m:=by
 have q:l.Perm m:=(List.perm_ext_iff_of_nodup v.nodup a.nodup).2 (by grind[jqV]);have t:IsCmp (λx=>x∈m) UD:=⟨λx y b k=>isCmp_F.rng _ _ (a.rt x b).num (a.rt y k).num,λx y b k=>isCmp_F.anti _ _ (a.rt x b).num (a.rt y k).num,λx y z b k w=>isCmp_F.tr _ _ _ (a.rt x b).num (a.rt y k).num (a.rt z w).num⟩
 refine ji6 t (λx y b k r=> ?_) (λx b=>b) ((TF l).trans q) ?_
 ·have e:x.fact=y.fact:=(WZ (a.rt x b) (a.rt y k)).1 r;obtain⟨i,hi,rfl⟩:=aD.1 b;obtain⟨j,F,rfl⟩:=aD.1 k;have q:=aG.1 a.nd;grind
 grind[jfX]
theorem jAn(a b:Int):lo b a=lo a b:=by unfold lo;split<;>split<;>omega
theorem jy2(a b:Int):hi b a=hi a b:=by unfold hi;split<;>split<;>omega
theorem jlm(a b:Int):AQ b a=AQ a b:=by unfold AQ;rw[jAn,jy2]
theorem Uf(a b:Int):(AQ a b).1<=(AQ a b).2:=by unfold AQ lo hi;simp only;split<;>omega
theorem jwV{l a:List Int}(h:l.Perm a):Eb ⟨k,l,n,m,d⟩=Eb ⟨k,a,n,m,d⟩:=by
 unfold Eb A6;simp only;rw[h.length_eq,h.any_eq]
theorem jkx(p q:Int×Int):Dg p q<0↔p.1<q.1\/p.1=q.1/\p.2<q.2:=by
 unfold Dg It It It Nk;by_cases a:p.1<q.1
 ·simp[a]
 ·by_cases b:q.1<p.1
  ·simp[a,b];omega
  ·by_cases e:p.2<q.2
   ·simp[a,b,e];omega
   ·by_cases f:q.2<p.2
    ·simp[a,b,e,f]
    ·simp[a,b,e,f]
theorem ju2{l a:List Int}(h:l.Perm a):LI l=LI a:=by
 refine jmG ?_ ?_
 ·rw[jem];exact(jg9 l).trans h
 ·rw[jem];exact jk4 l
theorem jrY{l a:List Int}(h:l.Perm a)(b:normG ⟨k,l,n,m,d⟩=normG ⟨k,a,n,m,d⟩):normF ⟨k,l,n,m,d⟩=normF ⟨k,a,n,m,d⟩:=by
 unfold normF;rw[jwV h,b]
theorem jrd{a b c d f g h i:Int}(o:k=2\/k=3\/k=4\/k=9)(j:AQ f g=AQ a b)(l:AQ h i=AQ c d):normG ⟨k,[f,g,h,i],n,m,e⟩=normG ⟨k,[a,b,c,d],n,m,e⟩:=by
 unfold normG;rcases o with rfl|rfl|rfl|rfl<;>simp[j,l]
theorem jsQ(a b c d:Int)(f:k=2\/k=3\/k=4\/k=9):normF ⟨k,[b,a,d,c],n,m,e⟩=normF ⟨k,[a,b,c,d],n,m,e⟩:=
 jrY ((List.Perm.swap _ _ _).trans (((List.Perm.swap _ _ _).cons _).cons _)) (jrd f (jlm _ _) (jlm _ _))
theorem jpZ(a b c d:Int)(f:k=2\/k=3\/k=4\/k=9):normF ⟨k,[a,b,d,c],n,m,e⟩=normF ⟨k,[a,b,c,d],n,m,e⟩:=
 jrY (((List.Perm.swap _ _ _).cons _).cons _) (jrd f rfl (jlm _ _))
end Go.Va
namespace Go.Va
open Go.Proofs
theorem jwX(l:List Int)(i j:Nat)(x:Int)(h:i<l.length):(l.set i x).getD j 0=if j=i then x else l.getD j 0:=by
 rw[AL,AL,List.getElem?_set];by_cases e:j=i
 ·subst e;simp[h]
 ·rw[if_neg (λh=>e h.symm),if_neg e]
structure Nmz where
 v:List Int
 h:v.length=26
def Nmz.get(n:Nmz)(k:Nat):Int:=n.v.getD k 0
def Nmz.put(n:Nmz)(k:Nat)(x:Int):Nmz:=⟨n.v.set k x,by simp[n.h]⟩
def Nmz.zero:Nmz:=⟨List.replicate 26 (-1),rfl⟩
theorem Nmz.get_put(n:Nmz){k:Nat}(a:k<26)(x:Int)(j:Nat):(n.put k x).get j=if j=k then x else n.get j:=jwX n.v k j x (by rw[n.h];omega)
theorem Nmz.get_zero{k:Nat}(a:k<26):Nmz.zero.get k= -1:=by
 unfold Nmz.get Nmz.zero;rw[AL,List.getElem?_replicate,if_pos a];rfl
def H3:List UInt8->List Int->Nmz->Nmz×Bool
 |c::l,x::r,n=>if 0<=n.get (c.toNat - 97)/\n.get (c.toNat - 97)≠x then (n,false) else H3 l r (n.put (c.toNat - 97) x)
 |[],_,n=>(n,true)
 |_::_,[],n=>(n,true)
def argsR(q:RPat)(n:Nmz):List Int:=q.letters.flatMap λc=>if q.seg then [(n.get (c.toNat - 97)).tdiv 40,(n.get (c.toNat - 97)).tmod 40] else [n.get (c.toNat - 97)]
def Pz:Nat->List Int->Nat->Nat->Option (List Int)
 |0,a,_,_=>some a
 |m+1,a,j,k=>if a.getD j 0=a.getD k 0 then none else Pz m (if a.getD j 0<a.getD k 0 then (a.set j (a.getD k 0)).set k (a.getD j 0) else a) j (k+1)
def RO:Nat->List Int->Nat->Option (List Int)
 |0,a,_=>some a
 |m+1,a,j=>match Pz j a j 0 with|none=>none|some b=>RO m b (j+1)
def X0(a:List Int):Option (List Int):=RO a.length a 0
end Go.Va
namespace Go.Va
open _root_.List renaming map_map → aD, map_cons → aG
def FD(sg:Bool)(c:UInt8):Prop:=if sg then 97<=c.toNat/\c.toNat<123 else 65<=c.toNat/\c.toNat<91
instance (sg:Bool) (c:UInt8):Decidable (FD sg c):=by unfold FD;infer_instance
def UA(sg:Bool)(c:UInt8):UInt8:=if sg then c else c+32
def Vk(sg:Bool)(c:UInt8):Nat:=(UA sg c).toNat - 97
variable{c:UInt8}
theorem jkq{sg:Bool}(h:FD sg c):Vk sg c=if sg then c.toNat - 97 else c.toNat - 65:=by
 unfold Vk UA;cases sg with
 |true=>rfl
 |false=>
  unfold FD at h;simp only[Bool.false_eq_true,if_false]at h ⊢;rw[UInt8.toNat_add];grind
theorem jrX{sg:Bool}(h:FD sg c):Vk sg c<26:=by
 rw[jkq h];unfold FD at h;grind
theorem jwZ{sg:Bool}{d:UInt8}(a:FD sg c)(b:FD sg d)(h:Vk sg c=Vk sg d):c=d:=by
 rw[jkq a,jkq b]at h;unfold FD at a b;refine jmR ?_;grind
theorem jlC{sg:Bool}(h:FD sg c):Pq c:=by
 unfold FD at h;unfold Pq;grind
theorem jbX{sg:Bool}(h:FD sg c):97<=c.toNat↔sg=true:=by
 unfold FD at h;grind
def Qq(sg:Bool)(v:Int×Int):Int:=if sg then (v.1 - 1)*40+(v.2 - 1) else v.1 - 1
def KD(sg:Bool)(v:Int×Int):Prop:=if sg then (1<=v.1/\v.1<=40)/\(1<=v.2/\v.2<=40) else (1<=v.1/\v.1<=40)/\v.2=0
theorem jsl{sg:Bool}{v:Int×Int}(h:KD sg v):0<=Qq sg v:=by
 unfold KD at h;unfold Qq;grind
theorem juU{sg:Bool}{v w:Int×Int}(a:KD sg v)(b:KD sg w)(h:Qq sg v=Qq sg w):v=w:=by
 unfold KD at a b;unfold Qq at h;grind
theorem jlt{sg:Bool}{v:Int×Int}(h:KD sg v):v≠(0,0):=by
 grind[KD]
theorem jc6{sg:Bool}{s:OE}(a:FD sg s.1)(h:KD sg s.2):jif s:=by
 have b:=jbX a;refine⟨jlC a,?_,λe=> ?_⟩
 ·unfold KD at h;grind
 ·unfold KD at h;grind
def Uc(sg:Bool)(b:Bnd)(n:Nmz):Prop:= ∀c,FD sg c->(b.get c=(0,0)/\n.get (Vk sg c)= -1)\/(KD sg (b.get c)/\n.get (Vk sg c)=Qq sg (b.get c))
theorem jua(sg:Bool):Uc sg Bnd.zero Nmz.zero:=λc a=> .inl ⟨juE c,Nmz.get_zero (jrX a)⟩
def Yf(sg:Bool)(a:List OE):List UInt8:=a.map λs=>UA sg s.1
def vals(sg:Bool)(a:List OE):List Int:=a.map λs=>Qq sg s.2
theorem jq2{sg:Bool}{b f:Bnd}{n:Nmz}{s:OE}(i:Uc sg b n)(g:FD sg s.1)(j:KD sg s.2)(h:b.put s.1 s.2=some f):Uc sg f (n.put (Vk sg s.1) (Qq sg s.2)):=by
 obtain⟨_,l,k⟩:=jm1 (jc6 g j) h;intro c a;rw[Nmz.get_put n (jrX g)];by_cases e:c=s.1
 ·grind
 ·rw[if_neg (by grind[jwZ]),k c (jlC a) e];exact i c a
theorem jjD(sg:Bool): ∀(a:List OE) (b:Bnd) (n:Nmz),(∀s∈a,FD sg s.1/\KD sg s.2)->Uc sg b n->
  match run a b with
  |some c=> ∃m,H3 (Yf sg a) (vals sg a) n=(m,true)/\Uc sg c m
  |none=>(H3 (Yf sg a) (vals sg a) n).2=false
 |[],b,n,_,i=>⟨n,rfl,i⟩
 |s::a,b,n,r,i=>by
  obtain⟨h,j⟩:=r s O1;have l:=λg t=>jjD sg a g t O3;have o:H3 (Yf sg (s::a)) (vals sg (s::a)) n=if 0<=n.get (Vk sg s.1)/\n.get (Vk sg s.1)≠Qq sg s.2 then (n,false) else H3 (Yf sg a) (vals sg a) (n.put (Vk sg s.1) (Qq sg s.2)):=rfl
  have p:run (s::a) b=match b.put s.1 s.2 with|none=>none|some g=>run a g:=rfl
  rw[o,p];rcases i s.1 h with⟨k,q⟩|⟨k,q⟩
  ·obtain⟨g,f⟩:=jpv (jc6 h j) (.inl k);rw[f,if_neg O];exact l g _ (jq2 i h j f)
  ·by_cases e:b.get s.1=s.2
   ·obtain⟨g,f⟩:=jpv (jc6 h j) (.inr e);rw[f,if_neg O3];exact l g _ (jq2 i h j f)
   ·cases f:b.put s.1 s.2 with
    |none=>
     simp only;rw[if_pos (by grind[jsl,juU])]
    |some g=>
     obtain⟨v,_,_⟩:=jm1 (jc6 h j) f;grind[absurd,jlt]
def Lb:List (Int×Int)->List (List Int)
 |[]=>[[]]
 |s::l=>(Lb l).map (λr=>s.1::s.2::r)++(Lb l).map (λr=>s.2::s.1::r)
theorem jkC(φ:Int->Int): ∀l:List (Int×Int),Lb (l.map λp=>(φ p.1,φ p.2))=(Lb l).map (List.map φ)
 |[]=>rfl
 |s::l=>by
  rw[aG,Lb,Lb,jkC φ l,List.map_append,aD,aD,aD,aD];rfl
theorem jmF(a b:Int):AQ a b=(a,b)\/AQ a b=(b,a):=by
 unfold AQ lo hi;grind
theorem jy7(v:List Int): ∀l:List (Int×Int),v∈Lb (l.map λp=>AQ p.1 p.2)↔v∈Lb l:=by
 have a: ∀(l:List (Int×Int)) (v:List Int),v∈Lb (l.map λp=>AQ p.1 p.2)↔v∈Lb l:=by
  intro l
  induction l with
  |nil=>intro v;rfl
  |cons s l b=>
   grind[Lb,jmF]
 grind
theorem jjA: ∀(b:List (Int×Int)) (ls:List UInt8),(∀c∈ls,FD false c)->ls.length=2*b.length-> ∀v,(∃a∈FM ls b,vals false a=v)↔v∈Lb b
 |[],ls,_,f,v=>by
  obtain rfl:ls=[]:=(by simp_all)
  simp[FM,vals,Lb,eq_comm]
 |s::b,ls,i,f,v=>by
  match ls,f with
  |c::d::r,f=>
   have l:=jjA b r O3 (by simp at f;omega);have g: ¬97<=c.toNat:=λh=>by have:=(jbX (i c O1)).1 h;cases this
   have e:FM (c::d::r) (s::b)=(FM r b).map (λa=>(c,(s.1+1,0))::(d,(s.2+1,0))::a)++(if s.1=s.2 then [] else (FM r b).map (λa=>(c,(s.2+1,0))::(d,(s.1+1,0))::a)):=by
    simp only[FM,if_neg g]
   have k: ∀(x y:Int) (a:List OE),vals false ((c,(x+1,0))::(d,(y+1,0))::a)=x::y::vals false a:=(by grind[vals,Qq])
   rw[e,Lb];simp only[List.mem_append,jzk];constructor
   ·grind
   ·rintro (⟨w,j,rfl⟩|⟨w,j,rfl⟩)
    ·grind
    grind
theorem jsd: ∀(b:List (Int×Int)) (ls:List UInt8),(∀c∈ls,FD true c)->ls.length=b.length-> ∀v,(∃a∈FM ls b,vals true a=v)↔v=b.map λs=>s.1*40+s.2
 |[],ls,_,g,v=>by
  obtain rfl:ls=[]:=O3;simp[FM,vals,eq_comm]
 |s::b,ls,l,g,v=>by
  match ls,g with
  |c::r,g=>
   have j:=jsd b r O3 (by simp at g;omega);have h:97<=c.toNat:=(jbX (l c O1)).2 rfl;have e:FM (c::r) (s::b)=(FM r b).map (λa=>(c,(s.1+1,s.2+1))::a):=by
    cases r<;>simp only[FM,if_pos h]
   have k: ∀(a:List OE),vals true ((c,(s.1+1,s.2+1))::a)=(s.1*40+s.2)::vals true a:=(by grind[vals,Qq])
   rw[e,aG];simp only[jzk];constructor
   ·rintro⟨a,⟨i,f,rfl⟩,rfl⟩;rw[k,(j _).1 ⟨i,f,rfl⟩]
   ·rintro rfl;obtain⟨i,f,m⟩:=(j _).2 rfl;grind
def jg7:Nat->List Int->List (List Int)
 |0,_=>[[]]
 |n+1,l=>(List.range l.length).flatMap λi=>(jg7 n (l.eraseIdx i)).map (l.getD i 0:: ·)
theorem js3: ∀(ls:List UInt8) (b:List Int),(VA ls b).map (vals false)=jg7 ls.length b
 |[],b=>rfl
 |c::r,b=>by
  rw[VA,List.length_cons,jg7,List.map_flatMap];congr 1;funext i;rw[<-js3 r,aD,aD];congr 1;funext a;simp[vals,Qq,Function.comp]
end Go.Va
namespace Go.Va
open _root_.Nat renaming gcd → aD, gcd_pos_of_pos_right → aG, div_le_self → aI, le_of_dvd → aJ
open _root_.List renaming drop_length → aH
open Int renaming natCast_add → qA, natCast_mul → qB, natCast_emod → qC, natCast_ediv → qD, natCast_pow → qE
open Go.Proofs Go.Proofs.Tryz
theorem jvf{neg:Bool}{m d:Nat}(a:0<d):sg neg (m/aD m d)=sg neg m:=by
 have b:0<aD m d:=aG m a;have h:0<m/aD m d↔0<m:=by
  constructor
  ·intro h;have:=aI m (aD m d);omega
  ·intro h;exact Nat.div_pos (aJ h (Nat.gcd_dvd_left m d)) b
 unfold sg;simp only[h]
theorem jwp(neg:Bool)(m d:Nat)(e:m<18446744073709551616)(a:d<18446744073709551616)(o:d≠0):
  CallsF prog 127 [.agg [.bool neg,Ad (limbs m)],.c (Ad (limbs d))] (.u (.agg (RB neg m d))):=by
 have v:=IK e;have r:=IK a;have p:0<aD m d:=aG m O;have q:aD m d<=d:=aJ O (Nat.gcd_dvd_right m d);have b:=jvf (neg:=neg) (m:=m) (d:=d) O;have i:=CM (limbs d) (Aw _) O;have g:=jtL (limbs m) (limbs d) (Aw _) O (Aw _) O (by rw[Az];exact e) (by rw[Az];exact a);rw[Az,Az]at g;unfold RB;rw[<-b];generalize aD m d=G at*;have t:=IK (n:=G) O;have k:=jac (limbs m) (limbs G) (Aw _) O (Aw _) O (by rw[Az];exact e) (by rw[Az];omega) (by rw[Az];omega);have l:=jac (limbs d) (limbs G) (Aw _) O (Aw _) O (by rw[Az];exact a) (by rw[Az];omega) (by rw[Az];omega);have w:=CG (aI m G);have j:=IS neg (limbs (m/G)) (Aw _) O;rw[Az]at i j;rw[Az,Az]at k l;have f:limbs d≠[]:=λh=>o (limbs_nil.1 h);refine oB func127 ?_;refine aB1 f i ?_;refine aB g ?_;refine aB k ?_;refine aB l ?_;refine Ac j ?_;exact kQ
theorem jvT(f g:Bool)(a b c d:List Nat)(h:Ok a)(v:a.length<=2)(i:Ok b)(w:b.length<=2)(j:Ok c)(x:c.length<=2)(l:Ok d)(y:d.length<=2)(m:val b≠0)(o:val d≠0):
  CallsF prog 195 [.agg [.bool f,Ad a,Ad b],.agg [.bool g,Ad c,Ad d]] (.u (.agg (RB (!decide (f=g)) (val a*val c) (val b*val d)))):=by
 have r:=Cp a c h j;have t:=Cp b d i l;have z:=Z5 f g a c h O j O O;have E:=jlz b d i O l O;have p:val a*val c<18446744073709551616:=by
  exact(GE _).1 O
 have q:val b*val d<18446744073709551616:=by
  exact(GE _).1 O
 have k:=jwp (sg (!decide (f=g)) (val a*val c)) (val a*val c) (val b*val d) p q (Nat.mul_ne_zero m o);have e:RB (sg (!decide (f=g)) (val a*val c)) (val a*val c) (val b*val d)=RB (!decide (f=g)) (val a*val c) (val b*val d):=by
  unfold RB;rw[jhZ]
 rw[e]at k;clear h v i w j x l y m o r t e p q;refine oB func195 ?_;refine AA (Ah [0,1,0,4,15,0,32,0,128,511,1023,2047]) [.any [] [] (Aq [[2],[5],[3],[7],[6,8],[2],[10],[3],[12]]),.one,.one,.one] O5 ?_;refine rB ?_;refine aQ z ?_;refine aB E ?_;refine Ac k ?_;simp -implicitDefEqProofs[jJ,-qA,-qB,-qC,-qD,-qE,RB]
def jpM:List (List Nat):=(Ah [0,1,3,7,0,16,48,112,255,0,512,1536,3584,0,8192,24576,57344,131071,262143,524287])
@[simp]def joz:List Seg:=[.any [] [] (Aq [[1],[17],[18],[19],[1],[21],[22],[23],[20,24],[1],[26],[27],[28],[1],[30],[31],[32]]),.one,.one,.one]
def joh:List (List Nat):=(Ah [0,0,3,7,15,15,0,95,255])
@[simp]def jqM:List Seg:=[.any [] [7] [⟨0,[],[7],[7],[]⟩,⟨0,[5],[7],[7],[]⟩,⟨0,[47,48],[7],[7],[]⟩,⟨0,[49],[7],[7],[]⟩,⟨0,[46],[7],[7],[]⟩,⟨0,[46],[7],[7],[]⟩,⟨1,[],[],[],[]⟩,⟨2,[7,50],[],[],[7]⟩],.one]
def atomN(a b:Int):Int:=lo a b*40+hi a b
theorem SW(a b:Int)(e:0<=a/\a<40)(f:0<=b/\b<40):CallsF prog 297 [.c (.int .i64 a),.c (.int .i64 b)] (.u (.c (.d (.int .i64 (atomN a b))))):=by
 unfold atomN lo hi;refine oA func297 ?_;refine⟨⟨?_,?_⟩,?_,?_⟩<;>(repeat' split)<;>omega
def Xi(g:Fct):List D:=[.int .i64 (atomN (g.args.getD 0 0) (g.args.getD 1 0)),.int .i64 (atomN (g.args.getD 2 0) (g.args.getD 3 0)),.bool g.neg,Ad g.abs,Ad g.den]
theorem jth(g:Fct):(Xi g).length=5:=rfl
theorem jwv(f:Fct)(a:f.kind≠4)(b:f.kind≠9):CallsF prog 194 [.agg f.ds] (.u (.c (.own 5 0 []))):=by
 refine cO func194 rfl ?_;obtain⟨e,args,i,g,h⟩:=f;simp only at a b;exact kA2 a b
theorem jxL(a b c d:Int)(o:0<=a/\a<40)(p:0<=b/\b<40)(q:0<=c/\c<40)(r:0<=d/\d<40)(neg:Bool)(m e:Nat)(w:m<340282366920938463463374607431768211456)(t:e<340282366920938463463374607431768211456)(l:e≠0)(v:aD m e=1):
  CallsF prog 194 [.agg [.int .i64 9,AT [a,b,c,d],.bool neg,Ad (limbs m),Ad (limbs e)]]
   (.u (.c (.own 5 (rdR ⟨9,[a,b,c,d],neg,limbs m,limbs e⟩).length ((rdR ⟨9,[a,b,c,d],neg,limbs m,limbs e⟩).flatMap Xi)))):=by
 have j:=SW a b o p;have k:=SW c d q r;have h:=jcg 1 O;have x:=jgj neg m e w t l v;have i:=Az m;refine oA func194 ?_;refine AA jpM joz O5 ?_;refine rD ?_;refine Ae j ?_;refine rD ?_;refine aA k ?_;refine aA h ?_;refine AA joh jqM O5 ?_;refine rA ?_;refine aA h ?_;refine Ae x ?_;by_cases g:m=0
 ·subst g;refine rA ?_;have f:rdR ⟨9,[a,b,c,d],neg,limbs 0,limbs e⟩=[⟨9,[a,b,c,d],neg,limbs 0,limbs e⟩]:=by simp[rdR,i]
  rw[f];exact⟨rfl,rfl,rfl⟩
 ·refine rA1 g ?_;have f:rdR ⟨9,[a,b,c,d],neg,limbs m,limbs e⟩=[⟨9,[a,b,c,d],neg,limbs m,limbs e⟩,⟨9,[c,d,a,b],neg,limbs e,limbs m⟩]:=by simp[rdR,i,g]
  rw[f];exact⟨rfl,rfl,rfl⟩
theorem jvV(a b c d:Int)(i:0<=a/\a<40)(j:0<=b/\b<40)(k:0<=c/\c<40)(l:0<=d/\d<40)(neg:Bool)(x y:List Nat):
  CallsF prog 194 [.agg [.int .i64 4,AT [a,b,c,d],.bool neg,Ad x,Ad y]]
   (.u (.c (.own 5 (rdR ⟨4,[a,b,c,d],neg,x,y⟩).length ((rdR ⟨4,[a,b,c,d],neg,x,y⟩).flatMap Xi)))):=by
 have f:=SW a b i j;have g:=SW c d k l;have e:=jcg 1 O;have m:=jgj false 1 1 O O O O5;refine oA func194 ?_;refine AA jpM joz O5 ?_;refine rD ?_;refine Ae f ?_;refine rD ?_;refine aA g ?_;refine aA e ?_;refine AA joh jqM O5 ?_;refine rA ?_;refine aA e ?_;refine aA m ?_;have h:rdR ⟨4,[a,b,c,d],neg,x,y⟩=[⟨9,[a,b,c,d],false,limbs 1,limbs 1⟩,⟨9,[c,d,a,b],false,limbs 1,limbs 1⟩]:=by simp[rdR]
 rw[h];exact⟨rfl,rfl,rfl⟩
def jpn:List (List Nat):=(Ah [0,1,0,7,15,0,32,0,224,480,1023])
@[simp]def jqZ:List Seg:=[.any [] [] (Aq [[2],[30],[5],[31,32],[33],[3],[35],[5],[36,37],[38]]),.one]
theorem jeY(a b:Int):CallsF prog 123 [.c (.int .i64 a),.c (.int .i64 b)] (.u (.c (.d (.int .i64 (Nk a b))))):=by
 refine cO func123 rfl ?_;unfold Nk;by_cases h:a<b
 ·exact kA1 h
 ·by_cases e:b<a
  ·exact kA2 h e
  ·exact kA2 h e
def Fct.Val(f:Fct):Prop:=f.kind=9->CV f.neg f.abs f.den=true
theorem Fct.Val.num{f:Fct}(h:f.Val)(a:f.Mild):f.Num:=λb=>(Cz (h b) a.oa a.od).2.2.1
theorem Fct.Rt.val{f:Fct}(h:f.Rt):f.Val:=λa=>by
 have:=h.parts.2.2.2;rwa [if_pos a]at this
theorem jqp{x y:List Int}{i:Nat}(b:i<=x.length)(e:i<=y.length)(h:i=x.length\/i=y.length):D1 (x.drop i) (y.drop i)=Nk x.length y.length:=by
 unfold Nk;rcases h with h|h
 ·subst h;rw[aH,jq6,List.length_drop];by_cases a:x.length<y.length
  ·rw[if_pos O,if_pos O]
  ·rw[if_neg O,if_neg O,if_neg O]
 ·subst h;by_cases a:y.length<x.length
  ·rw[if_neg O,if_pos O,BQ a,aH];rfl
  ·rw[if_neg O,if_neg O,aH,DU O];rfl
theorem jnc(f g:Fct)(hf:f.Mild)(hg:g.Mild)(nf:f.Val)(ng:g.Val):CallsF prog 62 [.agg f.ds,.agg g.ds] (.u (.c (.d (.int .i64 (C2 f g))))):=by
 have z:=cmpK_zero (a:=f) (b:=g);have G:=jmS f g;have P:=jmP f.kind g.kind;have e3:=jmC f.args g.args;rw[jmp];obtain⟨k,a,n,m,d⟩:=f;obtain⟨w,e,N,M,J⟩:=g;obtain⟨la,ld,Y,Z,ln⟩:=hf;obtain⟨K,L,E,F,ln'⟩:=hg;simp only[Fct.Val,Fct.ds,ZJ]at*;generalize cmpK ⟨k,a,n,m,d⟩ ⟨w,e,N,M,J⟩=c at*;refine cO func62 rfl ?_;by_cases x:k=w
 ·rw[if_neg (by simp[P.2 x])]at G;subst G;refine rA1 x ?_;refine AV (λi:Nat=>⟨[(5,vI .i64 i),(2,vC (.ptr 2 0)),(3,vC (.ptr 3 0))],[(3,.box [.d (.int .i64 w),.d (AT e),.d (.bool N),.d (Ad M),.d (Ad J)]),(2,.box [.d (.int .i64 k),.d (AT a),.d (.bool n),.d (Ad m),.d (Ad d)])]⟩)
   (λi=>i<=a.length/\i<=e.length/\D1 (a.drop i) (e.drop i)=D1 a e) (λi=>a.length - i) 0 (by simp[x]) ⟨O,O,rfl⟩ ?_
  rintro i ⟨S,T,I⟩;by_cases h:i<a.length
  ·by_cases t:i<e.length
   ·have j:=jte h t;have Q:=jmP a[i] e[i];have o:=jeY a[i] e[i];by_cases H:a[i]=e[i]
    ·rw[if_pos (Q.2 H)]at j;refine rA2 h t ?_;refine AA jpn jqZ O5 ?_;refine rD3 h t H ?_;exact⟨O,⟨O,O,by rw[<-j,I]⟩,O⟩
    ·have p:Nk a[i] e[i]≠0:=λq=>H (Q.1 q);rw[if_neg p,I]at j;refine rA2 h t ?_;refine AA jpn jqZ O5 ?_;refine rD3 h t H ?_;refine AA (Ah [0,1,0,7,15,0,32,0,224,480,1023,2047]) [.any [] [] (Aq [[2],[41],[5],[42,43],[44],[3],[46],[5],[47,48],[49]]),.one,.one] O5 ?_;refine rD2 h t ?_;refine Ac o ?_;exact kA2 j p
   ·have j:=jqp S T (.inr O);rw[I]at j;have o:=jeY a.length e.length;have v: ¬a.length=e.length:=O;have p:Nk (a.length:Int) e.length≠0:=λq=>v (by have:=(jmP _ _).1 q;omega);simp -implicitDefEqProofs[jJ,-qA,-qB,h,t,v];refine Ac o ?_;exact kA2 j p
  ·have j:=jqp S T (.inl O);rw[I]at j;by_cases v:a.length=e.length
   ·have p:Nk (a.length:Int) e.length=0:=(jmP _ _).2 O;rw[p]at j;have y: ¬i<e.length:=O;by_cases W:k=9
    ·have l:w=9:=O;obtain⟨p1,p2,p3,p4,p5⟩:=Cz (nf W) Y Z;obtain⟨q1,q2,q3,q4,q5⟩:=Cz (ng l) E F;have l1:=Y.ltW la;have l2:=Z.ltW ld;have l3:=E.ltW K;have l4:=F.ltW L;have r:=jm7 n N (val m) (val d) (val M) (val J) O O p3 p4 O O q3 q4;rw[<-p1,<-p2,<-q1,<-q2]at r;simp -implicitDefEqProofs[jJ,-qA,-qB,y,v,W,l];refine Ac r ?_;exact kA1 j
    ·have l: ¬w=9:=O;simp -implicitDefEqProofs[jJ,-qA,-qB,y,v,l,j,x]
   ·have o:=jeY a.length e.length;have p:Nk (a.length:Int) e.length≠0:=λq=>v (by have:=(jmP _ _).1 q;omega);refine rA2 h v ?_;refine Ac o ?_;exact kA2 j p
 ·have X:Nk k w≠0:=λq=>x (P.1 q);rw[if_pos X]at G;subst G;have o:=jeY k w;refine rA1 x ?_;refine Ac o ?_;exact kA1 X
theorem jkj(f g:Fct)(a:f.Mild)(b:g.Mild)(e:f.Val)(h:g.Val):CallsF prog 30 [.agg f.ds,.agg g.ds] (.u (.c (.d (.bool (decide (C2 f g=0)))))):=by
 have k:=jnc f g a b e h;clear a b e h;simp only[Fct.ds]at*;refine oA func30 ?_;refine Ac k ?_;exact kA
end Go.Va
namespace Go.Va
open _root_.List renaming pairwise_cons → aD, length_cons → aG, length_map → aH
open Go.Proofs
def Qk(b:List Int)(a:Int):Int:=b.getD a.toNat 0
abbrev FE:=List Int×Bool
def jsS(n:Nat):FE:=((List.range n).map λi:Nat=>(i:Int),false)
def Mb(f:Fct)(x:List Int×Bool):Fct:=⟨f.kind,x.1.map (Qk f.args),f.neg,if x.2 then f.den else f.abs,if x.2 then f.abs else f.den⟩
def putF:List Fct->Fct->List Fct
 |[],f=>[f]
 |a::l,f=>if C2 a f<0 then a::putF l f else if C2 a f=0 then a::l else f::a::l
theorem jdc{f:Fct}(b:f.Rt): ∀{l:List Fct},(∀x∈l,x.Rt)-> ∀x,x∈putF l f↔x=f\/x∈l
 |[],_,x=>by simp[putF]
 |a::l,h,x=>by
  have j:=jdc b (l:=l) (λx i=>h x (by simp[i])) x;unfold putF;split
  ·simp only[jzn,j];constructor
   ·rintro (h1|h1|h1)<;>simp[h1]
   ·rintro (h1|h1|h1)<;>simp[h1]
  ·split
   ·rename_i g;have e:=(WZ (h a O1) b).1 g;subst e;simp only[jzn];constructor
    ·intro h1;exact .inr h1
    ·rintro (h1|h1)
     ·exact .inl h1
     ·exact h1
   ·simp
theorem jrx{f:Fct}(g:f.Rt): ∀{l:List Fct},(∀x∈l,x.Rt)->l.Pairwise (λa b=>C2 a b<0)->(putF l f).Pairwise (λa b=>C2 a b<0)
 |[],_,_=>by simp[putF]
 |a::l,h,e=>by
  rw[aD]at e;have m:=h a O1;have j:=λx o=>h x (List.mem_cons_of_mem a o);unfold putF;split
  ·rename_i k;rw[aD];refine⟨λb hb=> ?_,jrx g j e.2⟩;rcases (jdc g j b).1 hb with rfl|hb
   ·exact k
   ·exact e.1 b hb
  ·split
   ·rw[aD];exact e
   ·rename_i p q;have i:C2 f a<0:=by have:=isCmp_F.anti a f m.num g.num;omega
    rw[aD,aD];refine⟨λb hb=> ?_,e.1,e.2⟩;rcases jzn.1 hb with rfl|hb
    ·exact i
    ·have:=isCmp_F.tr f a b g.num m.num (j b hb).num O (by have:=e.1 b hb;omega);have:=e.1 b hb;omega
def Dc(l:List Fct)(m:List Fct):List Fct:=m.foldl putF l
theorem jja: ∀{m l:List Fct},(∀x∈l,x.Rt)->(∀x∈m,x.Rt)-> ∀x,x∈Dc l m↔x∈l\/x∈m
 |[],l,_,_,x=>by simp[Dc]
 |f::m,l,b,e,x=>by
  have a:=e f O1;have g:=jja (m:=m) (l:=putF l f) (λy hy=>by
   rcases (jdc a b y).1 hy with rfl|hy
   ·exact a
   ·exact b y hy) (λy hy=>e y (by simp[hy])) x
  show x∈Dc (putF l f) m↔_;rw[g,jdc a b];simp only[jzn];constructor
  ·rintro ((h|h)|h)<;>simp[h]
  ·rintro (h|h|h)<;>simp[h]
theorem jmN: ∀{m l:List Fct},(∀x∈l,x.Rt)->(∀x∈m,x.Rt)->l.Pairwise (λa b=>C2 a b<0)->(Dc l m).Pairwise (λa b=>C2 a b<0)
 |[],l,_,_,h=>h
 |f::m,l,g,i,h=>by
  have e:=i f O1;exact jmN (m:=m) (l:=putF l f) (λy hy=>by
   rcases (jdc e g y).1 hy with rfl|hy
   ·exact e
   ·exact g y hy) (λy hy=>i y (by simp[hy])) (jrx e g h)
theorem jlU(f:Fct): ∀l:List Fct,(putF l f).length<=l.length+1
 |[]=>by simp[putF]
 |a::l=>by
  unfold putF;split
  ·have:=jlU f l;simp only[aG];omega
  ·split<;>simp
theorem ZC: ∀(m l:List Fct),(Dc l m).length<=l.length+m.length
 |[],l=>by simp[Dc]
 |f::m,l=>by
  have:=ZC m (putF l f);have:=jlU f l;show(Dc (putF l f) m).length<=_;simp only[aG];omega
theorem jxH: ∀{l m:List Fct},(∀x∈l,x.Rt)->(∀x∈m,x.Rt)->l.Pairwise (λa b=>C2 a b<0)->m.Pairwise (λa b=>C2 a b<0)->(∀x,x∈l↔x∈m)->l=m:=by
 intro l m e j f o h;have k: ∀{l:List Fct},(∀x∈l,x.Rt)->l.Pairwise (λa b=>C2 a b<0)->l.Nodup:=λ{l} e f=>by
  refine List.Pairwise.imp_of_mem (λ{a b} g i h p=> ?_) f;subst p;have:=isCmp_F.self (e a g).num;omega
 refine List.Perm.eq_of_pairwise (le:=λa b=>C2 a b<0) (λa b g i q r=> ?_) f o ((List.perm_ext_iff_of_nodup (k e f) (k j o)).2 h);have:=isCmp_F.anti a b (e a g).num (j b i).num;omega
def okS(n:Nat)(g:FE):Bool:=decide (g.1.length=n)&&g.1.all λi=>decide (0<=i)&&decide (i<n)
theorem jyV{n:Nat}{g:FE}(h:okS n g=true):g.1.length=n:=by
 unfold okS at h;simp only[AR,decide_eq_true_eq]at h;exact h.1
theorem jBx{n:Nat}{g:FE}(h:okS n g=true): ∀i∈g.1,0<=i/\i<n:=λi hi=>by
 unfold okS at h;simp only[AR,decide_eq_true_eq]at h;have:=jzy.1 h.2 i hi;simpa using this
def varL(f:Fct)(G:List FE):List Fct:=Dc [] (G.map (Mb f))
theorem jx5{f:Fct}(h:f.Rt){g:FE}(j:okS f.args.length g=true)(x:g.2=true->f.kind=9/\val f.abs≠0):(Mb f g).Rt:=by
 obtain⟨t,J,v,e⟩:=h.parts;obtain⟨L,M,G,H,N⟩:=h.mild;have K:=jyV j;refine Fct.Rt.of ⟨?_,?_,?_,?_,?_⟩ t ?_ ?_ ?_
 ·unfold Mb;simp only;split<;>assumption
 ·unfold Mb;simp only;split<;>assumption
 ·unfold Mb;simp only;split<;>assumption
 ·unfold Mb;simp only;split<;>assumption
 ·unfold Mb;simp only[aH];omega
 ·unfold Mb;simp only[aH];omega
 ·unfold Mb;simp only[jzk];rintro a ⟨i,hi,rfl⟩;have:=jBx j i hi;have b:i.toNat<f.args.length:=O;refine v _ ?_;unfold Qk;rw[AL,AD b];exact AZ b
 ·unfold Mb;simp only;cases w:g.2 with
  |false=>simpa using e
  |true=>
   obtain⟨y,z⟩:=x w;rw[if_pos y]at e ⊢;simp only[if_true];obtain⟨k,l,m,o,I⟩:=Cz e G H;unfold CV;have r:Nat.gcd (val f.den) (val f.abs)=1:=by rw[Nat.gcd_comm];exact o
   have E:f.den≠[]:=λh=>m (by rw[h];rfl);have F:f.abs≠[]:=λh=>z (by rw[h];rfl);have p:Nr f.den=true:=by rw[l];exact jbu _
   have q:Nr f.abs=true:=by rw[k];exact jbu _
   simp[r,E,F,p,q]
end Go.Va
