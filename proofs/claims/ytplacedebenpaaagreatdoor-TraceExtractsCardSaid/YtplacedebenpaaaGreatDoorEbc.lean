/- a part of the proof -/
import Derived.Test.YtplacedebenpaaaGreatDoorEbb
import Derived.Test.YtplacedebenpaaaGreatDoorEzL
set_option linter.all false
set_option maxHeartbeats 4000000
set_option maxRecDepth 10000
namespace Go.Va
open _root_.List renaming map_set → aD
open Int renaming natCast_add → qA, natCast_mul → qB
open List renaming reduceReplicate → qF
open Go.Proofs Go.Proofs.Tryz
def Tk(l:List Fnd):D:= .slice l.length (l.flatMap Fnd.ds)
variable{l:List Fnd}{nl:List Fct}{F:Fct}{g:List Grd}
@[simp]theorem jCs(l:List Fnd):lenC (.d (Tk l))=some l.length:=rfl
@[simp]theorem jCf(l:List Fnd):D.flat (Tk l)=false:=rfl
@[simp]theorem jCx(l:List Grd):D.flat (Dd l)=false:=rfl
@[simp]theorem jCp(l:List Grd):lenC (.d (Dd l))=some l.length:=rfl
@[simp]theorem jCB(h:List (Nat×Blk))(i:Int)(l:List Fnd):idxSl h 6 i (.d (Tk l))=if 0<=i/\i<l.length then some (.d (.ref ((l.drop i.toNat).flatMap Fnd.ds))) else none:=by
 unfold Tk idxSl;simp only[jie,and_true,jdj Fnd.ds_len]
@[simp]theorem jCk(h:List (Nat×Blk))(i:Int)(l:List Grd):idxSl h 2 i (.d (Dd l))=if 0<=i/\i<l.length then some (.d (.ref ((l.drop i.toNat).flatMap Grd.ds))) else none:=by
 unfold Dd idxSl;simp only[jbw,and_true,jdj Grd.ds_len]
theorem jlX{i:Nat}(h:i<l.length):(l.drop i).flatMap Fnd.ds= .int .i64 l[i].fact.kind::AT l[i].fact.args:: .bool l[i].fact.neg::Ad l[i].fact.abs::Ad l[i].fact.den::Dd l[i].grds::(l.drop (i+1)).flatMap Fnd.ds:=by
 rw[BQ h];rfl
theorem X9{l:List Grd}{i:Nat}(h:i<l.length):(l.drop i).flatMap Grd.ds= .int .i64 l[i].kind::AT l[i].args::(l.drop (i+1)).flatMap Grd.ds:=by
 rw[BQ h];rfl
theorem jrT(g f:Fct)(b:g.Rt)(a:f.Rt):CallsF prog 96 [.agg f.ds,.c (.ref g.ds)] (.u (.c (.d (.bool (decide (C2 g f=0)))))):=by
 have e:=jhR g f b.mild a.mild b.num a.num;clear b a;simp only[Fct.ds]at*;refine oA func96 ?_;refine Ac e ?_;exact kA
theorem jAg(g:Fct)(l:List Fct)(m:g.Rt)(o: ∀f∈l,f.Rt)(v:l.length<=1099511627776):CallsF prog 179 [.c (C1 l),.c (.fn 96 [.ref g.ds])] (.u (.c (.d (.int .i64 (PO g l 0))))):=by
 have k:=λf p=>jrT g f m (o f p);clear m o;generalize q:D.ref g.ds=r at*;clear q;refine oA func179 ?_;refine AV (λi:Nat=>⟨[(8,vI .i64 i),(7,vI .i64 l.length),(0,vC (.d (C1 l))),(1,vC (.d (.fn 96 [r])))],[]⟩) (λi=>i<=l.length/\PO g (l.drop i) i=PO g l 0) (λi=>l.length - i) 0 O1 ⟨O,rfl⟩ ?_;rintro i ⟨t,b⟩;by_cases h:i<l.length
 ·have e:=jnG (g:=g) h;have k:=k l[i] (AZ h);have j:=VX h;simp only[Fct.ds]at k;by_cases a:C2 g l[i]=0
  ·rw[if_pos a]at e;refine rA2 h j ?_;refine aA1 a k ?_;rw[<-b,e]
  ·rw[if_neg a]at e;refine rA2 h j ?_;refine aA1 a k ?_;exact⟨O,⟨O,by rw[<-e,b]⟩,O⟩
 ·have:i=l.length:=O;subst this;rw[List.drop_length]at b;refine rA ?_;exact b
theorem jqT(g:Fct)(l:List Fct)(a:g.Rt)(b: ∀f∈l,f.Rt)(h:l.length<=1099511627776):CallsF prog 98 [.c (C1 l),.c (.fn 96 [.ref g.ds])] (.u (.c (.d (.bool (QD g l))))):=by
 have k:=jAg g l a b h;have e:=jrr g l 0;clear a b;generalize i:D.ref g.ds=j at*;clear i;refine oA func98 ?_;refine Ac k ?_;exact kA1 e
theorem jyg(g:Fct)(x:Fnd)(a:g.Rt)(b:x.fact.Rt):CallsF prog 100 [.agg x.ds,.c (.ref [.fn 96 [.ref g.ds]])] (.u (.c (.d (.bool (decide (C2 g x.fact=0)))))):=by
 have f:=jrT g x.fact a b;clear a b;generalize e:D.ref g.ds=h at*;clear e;simp only[Fct.ds,Fnd.ds]at*;refine oA func100 ?_;refine Ac f ?_;exact kA
theorem jqn(g:Fct)(l:List Fnd)(m:g.Rt)(o: ∀x∈l,x.fact.Rt)(v:l.length<=1099511627776):CallsF prog 99 [.c (Tk l),.c (.fn 100 [.ref [.fn 96 [.ref g.ds]]])] (.u (.c (.d (.int .i64 (PO g (l.map Fnd.fact) 0))))):=by
 have k:=λf p=>jyg g f m (o f p);clear m o;generalize q:D.ref [D.fn 96 [.ref g.ds]]=r at*;clear q;refine oA func99 ?_;refine AV (λi:Nat=>⟨[(8,vI .i64 i),(7,vI .i64 l.length),(0,vC (.d (Tk l))),(1,vC (.d (.fn 100 [r])))],[]⟩) (λi=>i<=l.length/\PO g ((l.map Fnd.fact).drop i) i=PO g (l.map Fnd.fact) 0) (λi=>l.length - i) 0 O1 ⟨O,rfl⟩ ?_;rintro i ⟨t,b⟩;by_cases h:i<l.length
 ·have e:=jnG (g:=g) (l:=l.map Fnd.fact) (i:=i) (by simpa using h);rw[List.getElem_map]at e;have k:=k l[i] (AZ h);have j:=jlX h;simp only[Fnd.ds]at k;by_cases a:C2 g l[i].fact=0
  ·rw[if_pos a]at e;refine rA2 h j ?_;refine aA1 a k ?_;rw[<-b,e]
  ·rw[if_neg a]at e;refine rA2 h j ?_;refine aA1 a k ?_;exact⟨O,⟨O,by rw[<-e,b]⟩,O⟩
 ·have:i=l.length:=O;subst this;rw[DU O1]at b;refine rA ?_;exact b
theorem jyn(a b:List Grd)(q: ∀g∈a,g.Short)(t: ∀g∈b,g.Short)(w:a.length<=1000)(E:b.length<=1000):
  CallsF prog 180 [.c (Dd a),.c (Dd b),.c (.fn 181 [])] (.u (.c (.d (.int .i64 (KY a b))))):=by
 have k:=λx F y G=>jmw x y (q x F) (t y G);simp only[Grd.ds]at k;clear q t;refine oA func180 ?_;refine AV (λi:Nat=>⟨[(13,vI .i64 i),(12,vI .i64 a.length),(11,vC (.d (Dd a))),(0,vC (.d (Dd a))),(1,vC (.d (Dd b))),(2,vC (.d (.fn 181 [])))],[]⟩) (λi=>i<=a.length/\i<=b.length/\KY (a.drop i) (b.drop i)=KY a b) (λi=>a.length - i) 0 O1 ⟨O,O,rfl⟩ ?_;rintro i ⟨H,v,f⟩;by_cases h:i<a.length
 ·have o:=X9 h;by_cases j:i<b.length
  ·have p:=X9 j;have k:=k a[i] (AZ h) b[i] (AZ j);have e:KY (a.drop i) (b.drop i)=if cmpG a[i] b[i]≠0 then cmpG a[i] b[i] else KY (a.drop (i+1)) (b.drop (i+1)):=by
    rw[BQ h,BQ j];rfl
   rw[e]at f;have m: ¬b.length<=i:=O;generalize cmpG a[i] b[i]=r at*;by_cases l:r=0
   ·rw[if_neg (by simp[l])]at f;simp -implicitDefEqProofs[jJ,-qA,-qB,h,o,j,p,m];refine aA1 l k ?_;exact⟨O,⟨O,O,f⟩,O⟩
   ·rw[if_pos l]at f;subst f;simp -implicitDefEqProofs[jJ,-qA,-qB,h,o,j,p,m];refine Ac k ?_;exact kA1 l
  ·have z:b.length=i:=O;have e:KY a b=1:=by
    rw[<-f,BQ h,DU (by omega:b.length<=i)];rfl
   have m:b.length<=i:=O;simp -implicitDefEqProofs[jJ,-qA,-qB,h,o,m,e]
 ·have hi:i=a.length:=O;by_cases j:a.length<b.length
  ·have e:KY a b= -1:=by
    rw[<-f,DU (by omega:a.length<=i),BQ (by omega:i<b.length)];rfl
   simp -implicitDefEqProofs[jJ,-qA,-qB,h,j,e]
  ·have e:KY a b=0:=by
    rw[<-f,DU (by omega:a.length<=i),DU (by omega:b.length<=i)];rfl
   simp -implicitDefEqProofs[jJ,-qA,-qB,h,j,e]
theorem jvb(a b:List Grd)(i: ∀g∈a,g.Short)(j: ∀g∈b,g.Short)(e:a.length<=1000)(f:b.length<=1000):
  CallsF prog 101 [.c (Dd a),.c (Dd b)] (.u (.c (.d (.bool (KZ a b))))):=by
 have k:=jyn a b i j e f;unfold KZ;refine cO func101 rfl ?_;by_cases h:a.length=b.length
 ·refine rA1 h ?_;refine Ac k ?_;exact kA
 ·exact kA1 h
def QZ(nl:List Fct)(l:List Fnd):List (Nat×Blk):=
 if l=[] then [(9,.box [.nl]),(6,.box [.d (C1 nl)])]
 else [(9,.box [.sl 80 0 l.length]),(80,.row 6 (l.flatMap Fnd.ds) true),(6,.box [.d (C1 nl)])]
theorem Zg(nl:List Fct):QZ nl []=[(9,.box [.nl]),(6,.box [.d (C1 nl)])]:=rfl
theorem Ye(nl:List Fct)(h:l≠[]):QZ nl l=[(9,.box [.sl 80 0 l.length]),(80,.row 6 (l.flatMap Fnd.ds) true),(6,.box [.d (C1 nl)])]:=if_neg h
theorem VQ(nl:List Fct)(l:List Fnd)(e:Exit)(r:e= .ret\/e= .normal)(o:St)(m:List (Nat×Nat))(p:AW (rns m o).t (OS 2 [.ptr 6 0,.ptr 9 0]))(q:AW (rns m o).h (QZ nl l)):jkT 2 [.ptr 6 0,.ptr 9 0] (QZ nl l) e o:=by
 refine⟨r,m,p,q,?_,?_⟩
 ·intro c f i hi;unfold QZ;simp only[jzn,E8,or_false]at f;rcases f with rfl|rfl<;>(simp[C.id?]at hi;subst hi;split<;>simp)
 ·intro i b a;unfold QZ at a ⊢;split at a
  ·rename_i k;rw[if_pos k];simp only[lk]at a;split at a
   ·cases a;intro c f j g;simp at f;subst f;simp[C.id?]at g
   ·split at a
    ·cases a;intro c f j g;simp at f;subst f;simp[C.id?]at g
    ·cases a
  ·rename_i k;rw[if_neg k];simp only[lk]at a;split at a
   ·cases a;intro c f j g;simp at f;subst f;simp[C.id?]at g;subst g;simp
   ·split at a
    ·cases a;trivial
    ·split at a
     ·cases a;intro c f j g;simp at f;subst f;simp[C.id?]at g
     ·cases a
@[simp]theorem jfF(l:List Fnd):(l.flatMap Fnd.ds).take (l.length*6)=l.flatMap Fnd.ds:=Ba (by rw[jie];omega)
@[simp]theorem jCc(l:List Fnd):D.slice l.length (l.flatMap Fnd.ds)=Tk l:=rfl
theorem ZE(h:F.kind=0\/RQ F=true\/QD F nl=true):Ux nl l F g=l:=if_pos h
theorem jl7(h: ¬(F.kind=0\/RQ F=true\/QD F nl=true))(hi:PO F (l.map Fnd.fact) 0= -1):Ux nl l F g=l++[⟨F,g⟩]:=by
 unfold Ux;rw[if_neg h];simp only[hi];rw[if_pos O]
theorem jr5{k:Nat}(h: ¬(F.kind=0\/RQ F=true\/QD F nl=true))(a:k<l.length)(hi:PO F (l.map Fnd.fact) 0=k):Ux nl l F g=if KZ g l[k].grds then l.set k ⟨l[k].fact,g⟩ else l:=by
 unfold Ux;rw[if_neg h];simp only[hi];rw[if_neg O,Int.toNat_natCast,AD a]
theorem jlO(l:List Fnd)(k t:Nat)(a:k<l.length)(b:t<6):(l.flatMap Fnd.ds)[k*6+t]? =l[k].ds[t]? :=by
 have h:((l.flatMap Fnd.ds).drop (k*6)).take 6=l[k].ds:=Ic Fnd.ds_len l k a;rw[<-h,List.getElem?_take,if_pos b,List.getElem?_drop]
theorem jtl(l:List Fnd)(k:Nat)(g:List Grd)(b:k<l.length):splice (k*6+5) [Dd g] (l.flatMap Fnd.ds)=(l.set k ⟨l[k].fact,g⟩).flatMap Fnd.ds:=by
 have e:=jie l;rw[<-jhT Fnd.ds_len l k ⟨l[k].fact,g⟩ b];apply List.ext_getElem?;intro j;rw[Df _ _ _ (by simp;omega),Df _ _ _ (by rw[Fnd.ds_len];omega)];by_cases f:k*6<=j/\j<k*6+6
 ·obtain⟨t,rfl⟩: ∃t,j=k*6+t:=⟨j - k*6,O⟩
  have i:=jlO l k t b O;rw[if_pos (show k*6<=k*6+t/\k*6+t<k*6+(Fnd.ds ⟨l[k].fact,g⟩).length by rw[Fnd.ds_len];omega)];by_cases a:t=5
  ·subst a;rw[if_pos O1];simp[Fnd.ds]
  ·rw[if_neg (by simp;omega),i,Nat.add_sub_cancel_left]
   match t,f,a with
   |0,_,_=>rfl
   |1,_,_=>rfl
   |2,_,_=>rfl
   |3,_,_=>rfl
   |4,_,_=>rfl
   |5,_,h=>exact absurd rfl h
   |t+6,h,_=>omega
 ·rw[if_neg (by simp;omega),if_neg (by rw[Fnd.ds_len];omega)]
theorem jwg(nl:List Fct)(l:List Fnd)(f:Fct)(g:List Grd)(G:f.Mild)(I: ∀x∈nl,x.Rt)(M:nl.length<=1000)(E:FndOk l)(L:l.length<=100000000000)(K:g.length<=10/\ ∀x∈g,x.Short):
  Ld prog 95 [.agg f.ds,.c (Dd g)] [.ptr 6 0,.ptr 9 0] (QZ nl l) (QZ nl (jah nl l f g)):=by
 have w:=jb0 f G;have b:=NW (f:=f) G;unfold jah;simp only[Fct.ds]at w;generalize J:normF f=F at*;clear J;generalize a:QZ nl (Ux nl l F g)=H;by_cases j:l=[]
 ·subst j;rw[Zg];refine jqY [(1000006,6),(1000009,9)] (T:=tb) Ak mixed func95 rfl O2 (Al rfl) (Al rfl) rfl rfl ?_;unfold St.initX;simp -implicitDefEqProofs[jJ,-qA,-qB,-aD,-qF,OS];refine Ac w ?_;simp -implicitDefEqProofs[jJ,-qA,-qB,-aD,-qF,Fct.res];refine⟨λi=> ?_,λi=> ?_⟩
  ·have b:=b i;have r:=jrb F b.mild;have t:=jqT F nl b I O;have p:=jqn F [] b O1 O1;simp only[Fct.ds]at r t p;refine Ac r ?_;cases o:RQ F with
   |true=>
    simp -implicitDefEqProofs[jJ,-qA,-qB,-aD,-qF];rw[ZE (.inr (.inl o))]at a;subst a;refine VQ nl [] _ O1 _ [(6,1000006),(9,1000009)] ?_ ?_
    ·simp -implicitDefEqProofs[jJ,-qA,-qB,-aD,-qF,AW,lk,OS]
    ·simp -implicitDefEqProofs[jJ,-qA,-qB,-aD,-qF,AW,lk,Zg]
   |false=>
    simp -implicitDefEqProofs[jJ,-qA,-qB,-aD,-qF];refine Ac t ?_;cases m:QD F nl with
    |true=>
     simp -implicitDefEqProofs[jJ,-qA,-qB,-aD,-qF];rw[ZE (.inr (.inr m))]at a;subst a;refine VQ nl [] _ O1 _ [(6,1000006),(9,1000009)] ?_ ?_
     ·simp -implicitDefEqProofs[jJ,-qA,-qB,-aD,-qF,AW,lk,OS]
     ·simp -implicitDefEqProofs[jJ,-qA,-qB,-aD,-qF,AW,lk,Zg]
    |false=>
     simp -implicitDefEqProofs[jJ,-qA,-qB,-aD,-qF];simp only[Tk,List.length_nil,List.flatMap_nil]at p;refine Ac p ?_;simp -implicitDefEqProofs[jJ,-qA,-qB,-aD,-qF,PO];rw[jl7 (by simp[i,o,m]) rfl]at a;subst a;refine VQ nl _ _ O1 _ [(6,1000006),(9,1000009),(80,33)] ?_ ?_
     ·simp -implicitDefEqProofs[jJ,-qA,-qB,-aD,-qF,AW,lk,OS]
     ·simp -implicitDefEqProofs[jJ,-qA,-qB,-aD,-qF,AW,lk,QZ,Fnd.ds]
  ·rw[ZE (.inl i)]at a;subst a;refine VQ nl [] _ O1 _ [(6,1000006),(9,1000009)] ?_ ?_
   ·simp -implicitDefEqProofs[jJ,-qA,-qB,-aD,-qF,AW,lk,OS]
   ·simp -implicitDefEqProofs[jJ,-qA,-qB,-aD,-qF,AW,lk,Zg]
 ·rw[Ye nl j];refine jqY [(1000006,6),(1000009,9),(1000080,80)] (T:=tb) Ak mixed func95 rfl O2 (Al rfl) (Al rfl) rfl rfl ?_;unfold St.initX;simp -implicitDefEqProofs[jJ,-qA,-qB,-aD,-qF,OS];refine Ac w ?_;simp -implicitDefEqProofs[jJ,-qA,-qB,-aD,-qF,Fct.res];refine⟨λi=> ?_,λi=> ?_⟩
  ·have b:=b i;have r:=jrb F b.mild;have t:=jqT F nl b I O;have p:=jqn F l b E.rt O;simp only[Fct.ds]at r t p;refine Ac r ?_;cases o:RQ F with
   |true=>
    simp -implicitDefEqProofs[jJ,-qA,-qB,-aD,-qF];rw[ZE (.inr (.inl o))]at a;subst a;refine VQ nl l _ O1 _ [(6,1000006),(9,1000009),(80,1000080)] ?_ ?_
    ·simp -implicitDefEqProofs[jJ,-qA,-qB,-aD,-qF,AW,lk,OS]
    ·simp -implicitDefEqProofs[jJ,-qA,-qB,-aD,-qF,AW,lk,Ye nl j]
   |false=>
    simp -implicitDefEqProofs[jJ,-qA,-qB,-aD,-qF];refine Ac t ?_;cases m:QD F nl with
    |true=>
     simp -implicitDefEqProofs[jJ,-qA,-qB,-aD,-qF];rw[ZE (.inr (.inr m))]at a;subst a;refine VQ nl l _ O1 _ [(6,1000006),(9,1000009),(80,1000080)] ?_ ?_
     ·simp -implicitDefEqProofs[jJ,-qA,-qB,-aD,-qF,AW,lk,OS]
     ·simp -implicitDefEqProofs[jJ,-qA,-qB,-aD,-qF,AW,lk,Ye nl j]
    |false=>
     simp -implicitDefEqProofs[jJ,-qA,-qB,-aD,-qF];refine Ac p ?_;rcases jfV F (l.map Fnd.fact) 0 with⟨hi,_⟩|⟨k,h,hi,_⟩
     ·rw[jl7 (by simp[i,o,m]) hi]at a;subst a;simp -implicitDefEqProofs[jJ,-qA,-qB,-aD,-qF,hi];refine⟨⟨O,O⟩,?_⟩;refine VQ nl _ _ O1 _ [(6,1000006),(9,1000009),(80,33)] ?_ ?_
      ·simp -implicitDefEqProofs[jJ,-qA,-qB,-aD,-qF,AW,lk,OS]
      ·simp -implicitDefEqProofs[jJ,-qA,-qB,-aD,-qF,AW,lk,QZ,Fnd.ds]
     ·rw[List.length_map]at h;rw[Nat.zero_add]at hi;rw[jr5 (by simp[i,o,m]) h hi]at a;have y:=jlO l k 5 h O;simp only[Fnd.ds,List.getElem?_cons_succ,List.getElem?_cons_zero]at y;have v:=E.sh l[k] (AZ h);have N:=jvb g l[k].grds K.2 v.2 O O;simp -implicitDefEqProofs[jJ,-qA,-qB,-aD,-qF,hi,h,y];refine Ac N ?_;cases z:KZ g l[k].grds with
      |false=>
       rw[z,if_neg O1]at a;subst a;simp -implicitDefEqProofs[jJ,-qA,-qB,-aD,-qF];refine VQ nl _ _ O1 _ [(6,1000006),(9,1000009),(80,1000080)] ?_ ?_
       ·simp -implicitDefEqProofs[jJ,-qA,-qB,-aD,-qF,AW,lk,OS]
       ·simp -implicitDefEqProofs[jJ,-qA,-qB,-aD,-qF,AW,lk,Ye nl j]
      |true=>
       rw[z,if_pos rfl]at a;subst a;simp -implicitDefEqProofs[jJ,-qA,-qB,-aD,-qF,h];have q:l.set k ⟨l[k].fact,g⟩≠[]:=by
        intro e;have:=congrArg List.length e;simp at this;exact j this
       refine⟨O,?_⟩;refine VQ nl _ _ O1 _ [(6,1000006),(9,1000009),(80,1000080)] ?_ ?_
       ·simp -implicitDefEqProofs[jJ,-qA,-qB,-aD,-qF,AW,lk,OS]
       ·rw[Ye nl q];simp -implicitDefEqProofs[jJ,-qA,-qB,-aD,-qF,AW,lk,jtl l k g h]
  ·rw[ZE (.inl i)]at a;subst a;refine VQ nl l _ O1 _ [(6,1000006),(9,1000009),(80,1000080)] ?_ ?_
   ·simp -implicitDefEqProofs[jJ,-qA,-qB,-aD,-qF,AW,lk,OS]
   ·simp -implicitDefEqProofs[jJ,-qA,-qB,-aD,-qF,AW,lk,Ye nl j]
end Go.Va
namespace Go.Va
open _root_.List renaming length_cons → aD, length_append → aH, length_map → aJ
open _root_.Nat renaming zero_le → aG, add_le_add_iff_right → aI
open Go.Proofs
abbrev Fo:=Fct×List Grd
def TG(x:Fo):List A:=[.agg x.1.ds,.c (Dd x.2)]
def PA(r:Rul)(b:Bnd):List Fo:=if ZA b r.guards then r.concl.map λp=>(UV b p,guardsL b r.guards) else []
def Uw(E:Bnd->List Fo)(M:Nat->Bnd->List Bnd):Nat->Nat->Bnd->List Fo
 |0,_,b=>E b
 |k+1,i,b=>(M i b).flatMap (Uw E M k (i+1))
def PC(r:Rul)(nl:List Fct)(i:Nat)(b:Bnd):List Bnd:=match r.prem[i]?,nl[i]? with|some p,some f=>SB p f b|_,_=>[]
def saysP(r:Rul)(nl:List Fct):List Fo:=Uw (PA r) (PC r nl) nl.length 0 Bnd.zero
def runF(nl:List Fct)(l:List Fnd)(P:List Fo):List Fnd:=P.foldl (λl x=>jah nl l x.1 x.2) l
def UD(a b:Fnd):Int:=C2 a.fact b.fact
def jis(r:Rul)(nl:List Fct):List Fnd:=Q0 UD (runF nl [] (saysP r nl))
theorem juO(r:Rul)(b:Bnd):U7 r b=(PA r b).map TG:=by
 unfold U7 PA Wj;split
 ·rw[List.drop_zero,List.map_map];rfl
 ·rfl
theorem jp8(r:Rul)(M:Nat->Bnd->List Bnd): ∀(k i:Nat) (b:Bnd),found1 (U7 r) M k i b=(Uw (PA r) M k i b).map TG
 |0,i,b=>juO r b
 |k+1,i,b=>by
  show(M i b).flatMap (found1 (U7 r) M k (i+1))=((M i b).flatMap (Uw (PA r) M k (i+1))).map TG;rw[List.map_flatMap];exact congrArg (λg=>(M i b).flatMap g) (funext λc=>jp8 r M k (i+1) c)
theorem WE{α β:Type}{f:α->List β}{m:Nat}: ∀{l:List α},(∀a∈l,(f a).length<=m)->(l.flatMap f).length<=l.length*m
 |[],_=>O1
 |a::l,h=>by
  rw[List.flatMap_cons,aH,aD,Nat.succ_mul];have g:=h a O1;have i:=WE (l:=l) λb e=>h b (by simp[e]);omega
def jbK:Nat->Nat
 |0=>1
 |n+1=>(n+1)*jbK n
theorem jre: ∀n,1<=jbK n
 |0=>AO _
 |n+1=>Nat.mul_pos (Nat.succ_pos n) (jre n)
theorem jsa: ∀(l:List UInt8) (a:List Int) (b:Bnd),(mp l a b).length<=jbK a.length
 |[],a,b=>by rw[mp];exact jre _
 |c::r,a,b=>by
  rw[mp];cases g:a.length with
  |zero=>simp[jbK]
  |succ n=>
   have:=WE (l:=List.range (n+1)) (m:=jbK n) (f:=λi=>match b.point (c.toNat - 65) (a.getD i 0)with|none=>[]|some e=>mp r (a.eraseIdx i) e) λi hi=>by
    rw[List.mem_range]at hi;split
    ·exact aG _
    ·rename_i e _;have h:=jsa r (a.eraseIdx i) e;grind
   rw[List.length_range]at this;exact this
theorem jlv: ∀(n:Nat) (ls:List UInt8) (l:List (Int×Int)) (b:Bnd),ls.length<=n->(ms ls l b).length<=2^n
 |n,[],l,b,_=>by grind[ms,Nat.one_le_two_pow]
 |n,x::r,[],b,_=>by simp[ms]
 |0,x::r,s::l,b,a=>by simp at a
 |n+1,x::r,s::l,b,a=>by
  simp only[aD,aI]at a;by_cases e:97<=x.toNat
  ·rw[jfx e];split
   ·exact aG _
   ·rename_i g _;have:=jlv n r l g a;omega
  ·cases r with
   |nil=>simp_all[ms,if_neg,aG]
   |cons d r=>
    have f: ∀p q:Int,(Th x d r l b p q).length<=2^n:=by
     intro p q;unfold Th;split
     ·exact aG _
     ·split
      ·exact aG _
      ·rename_i h _;exact jlv n r l h (by simp at a;omega)
    grind[jgN,aH,Nat.pow_succ]
theorem jtG(k:Int)(f:Fct):(rdg k f).length<=8:=by
 unfold rdg;split
 ·simp
 ·split
  ·simp
  ·split<;>simp
theorem jpB(x y z:Nat)(b:Bnd)(m p q:Int):(SL x y z b m p q).length<=1:=by
 unfold SL;grind
theorem jx4(p:Pat)(f:Fct)(j:f.Rt)(o:p.letters.length<=8)(b:Bnd):(SB p f b).length<=2048:=by
 obtain⟨a,g,q,r⟩:=j.parts;unfold SB;split
 ·rename_i k;split
  ·rename_i i;have:=jsa p.letters f.args b;have e:f.args.length<=4:=by
    rw[g,i];rcases k with h|h|h<;>rw[h]<;>decide
   have:jbK f.args.length<=24:=by
    generalize f.args.length=n at e
    match n,e with
    |0,_=>decide
    |1,_=>decide
    |2,_=>decide
    |3,_=>decide
    |4,_=>decide
   omega
  ·simp
 ·split
  ·grind[aH,jpB]
  ·have a:=WE (l:=rdg p.kind f) (m:=256) (f:=λl=>ms p.letters l b) λl _=>jlv 8 p.letters l b o;grind[jtG,rdg,Nat.mul_le_mul_right]
structure Rul.Good (r:Rul):Prop where
 fit: ∀p∈r.prem,p.Fit/\p.letters.length<=8
 hg: ∀p∈r.guards,p.Ok/\p.letters.length<=8
 hc: ∀p∈r.concl,p.Ok/\0<=p.n/\p.n<=1000
 lp:r.prem.length<=3
 lc:r.concl.length<=10
 lg:r.guards.length<=10
theorem jxG(r:Rul)(a:r.Good)(nl:List Fct)(h: ∀f∈nl,f.Rt)(i:Nat)(b:Bnd):(PC r nl i b).length<=2048:=by
 unfold PC;split
 ·rename_i p f e g;exact jx4 p f O3 (a.fit p O3).2 b
 ·simp
theorem jr2(r:Rul)(nl:List Fct)(j: ∀f∈nl,f.Rt)(i:Nat)(b:Bnd)(e:b.Ok): ∀c∈PC r nl i b,c.Ok:=by
 intro c a;unfold PC at a;split at a
 ·rename_i p f g h;exact jBs p f O3 b e c a
 ·cases a
theorem jx9(r:Rul)(a:r.Good)(b:Bnd):(PA r b).length<=10:=by
 unfold PA;split
 ·rw[aJ];exact a.lc
 ·simp
theorem jo9(r:Rul)(g:r.Good)(nl:List Fct)(a: ∀f∈nl,f.Rt): ∀(k i:Nat) (b:Bnd),(Uw (PA r) (PC r nl) k i b).length<=2048^k*10
 |0,i,b=>by grind[Uw,jx9]
 |k+1,i,b=>by
  have:=WE (l:=PC r nl i b) (m:=2048^k*10) (f:=Uw (PA r) (PC r nl) k (i+1)) λc _=>jo9 r g nl a k (i+1) c;have h:=BC (2048^k*10) (jxG r g nl a i b);have e:2048^(k+1)*10=2048*(2048^k*10):=O;rw[e];exact Nat.le_trans this h
theorem Bnd.zero_ok:Bnd.zero.Ok:=by
 intro y a;have:=List.eq_of_mem_replicate a;omega
theorem jo0(r:Rul)(e:r.Good)(nl:List Fct)(b: ∀f∈nl,f.Rt)(a:nl.length<=3):(saysP r nl).length<=90000000000:=by
 have h:=jo9 r e nl b nl.length 0 Bnd.zero;have g:2048^nl.length<=2048^3:=Nat.pow_le_pow_right O a;unfold saysP;omega
theorem jqK{E:Bnd->List Fo}{M:Nat->Bnd->List Bnd}(g: ∀i b,b.Ok-> ∀c∈M i b,c.Ok){Q:Fo->Prop}(f: ∀b,b.Ok-> ∀x∈E b,Q x): ∀(k i:Nat) (b:Bnd),b.Ok-> ∀x∈Uw E M k i b,Q x
 |0,i,b,e,x,a=>f b e x a
 |k+1,i,b,e,x,a=>by
  rw[Uw,List.mem_flatMap]at a;obtain⟨c,h,a⟩:=a;exact jqK g f k (i+1) c (g i b e c h) x a
def Xn(x:Fo):Prop:=x.1.Mild/\x.2.length<=10/\ ∀g∈x.2,g.Short
theorem jy8(b:Bnd)(p:Pat)(a:p.Ok/\0<=p.n/\p.n<=1000):(UV b p).Mild:=by
 have g:=jdt b p.letters;have f:=a.1.2.1;obtain⟨n,hn⟩: ∃n:Nat,p.n=(n:Int):=⟨p.n.toNat,O⟩
 have h: ∀m:Nat,m<=1000->(limbs m).length<=8/\Ok (limbs m):=(by grind[Aw,jAs,Cm])
 have e:p.n.toNat<=1000:=O;unfold UV;refine⟨?_,?_,?_,?_,?_⟩
 ·grind
 ·grind
 ·grind[Ok,limbs,Ok.nil]
 ·grind[Ok,limbs,Ok.nil]
 grind
theorem jxF(b:Bnd)(a:List Pat)(h: ∀p∈a,p.Ok/\p.letters.length<=8)(k:a.length<=10):(guardsL b a).length<=10/\ ∀g∈guardsL b a,g.Short:=by
 unfold guardsL;split
 ·simp
 ·refine⟨?_,λg f=> ?_⟩
  ·grind[jmV,Zl,aJ]
  ·obtain⟨p,e,rfl⟩:=jzk.1 (jiM f);have i:=jdt b p.letters;have j:=(h p e).2;show(H9 b p).length<=_;grind[H9,Zv]
theorem jde(r:Rul)(e:r.Good)(nl:List Fct)(i: ∀f∈nl,f.Rt): ∀x∈saysP r nl,Xn x:=by
 refine jqK (by grind[jr2]) (λb h x a=> ?_) _ _ _ Bnd.zero_ok;unfold PA at a;split at a
 ·obtain⟨p,g,rfl⟩:=jzk.1 a;exact⟨jy8 b p (e.hc p g),jxF b r.guards e.hg e.lg⟩
 ·cases a
theorem jaI(nl:List Fct): ∀(P:List Fo) (l:List Fnd),(runF nl l P).length<=l.length+P.length
 |[],l=>by simp[runF]
 |x::P,l=>by
  have a:=jaI nl P (jah nl l x.1 x.2);grind[jBh,normF,runF,jah,aD]
theorem ZM{nl:List Fct}: ∀(P:List Fo) (l:List Fnd),FndOk l->(∀x∈P,Xn x)->FndOk (runF nl l P)
 |[],l,h,_=>h
 |x::P,l,h,b=>by
  have a:=b x O1;exact ZM P _ (jqR h (NW a.1) a.2) O3
def Zj(c:UInt8):Bool:=decide (65<=c.toNat)&&decide (c.toNat<91)
def jlB(c:UInt8):Bool:=Zj c||decide (97<=c.toNat)&&decide (c.toNat<123)
def Wg:List UInt8->Nat->Bool
 |[],_=>true
 |_::_,0=>false
 |c::r,n+1=>if 97<=c.toNat then decide (c.toNat<123)&&Wg r n else
  match r with
  |[]=>false
  |d::r=>Zj c&&Zj d&&Wg r n
theorem ZZ{c:UInt8}(h:Zj c=true):cap c:=by
 grind[Zj,cap]
theorem jvq{c:UInt8}(h:jlB c=true):Pq c:=by
 unfold jlB at h;simp only[Bool.or_eq_true,AR,decide_eq_true_eq]at h;exact h.imp (λh=>ZZ h) id
theorem jhy: ∀(n:Nat) (ls:List UInt8) (l:List (Int×Int)),ls.length<=n->Wg ls l.length=true->Qj ls l
 |n,[],l,_,_=>by cases l<;>trivial
 |n,c::r,[],_,h=>by simp[Wg]at h
 |0,c::r,s::l,b,_=>by simp at b
 |n+1,c::r,s::l,b,h=>by
  simp only[aD,aI]at b;by_cases a:97<=c.toNat
  ·rw[jjM a];cases r with
   |nil=>
    simp only[Wg,aD,if_pos a,AR,decide_eq_true_eq]at h;exact⟨h.1,by cases l<;>trivial⟩
   |cons d r=>
    simp only[Wg,aD,if_pos a,AR,decide_eq_true_eq]at h;exact⟨h.1,jhy n _ l b h.2⟩
  ·cases r with
   |nil=>grind[Wg]
   |cons d r=>
    simp only[Wg,aD,if_neg a,AR]at h;simp only[Qj,if_neg a];exact⟨ZZ h.1.1,ZZ h.1.2,jhy n r l (by simp at b;omega) h.2⟩
def jmD(p:Pat):Bool:=decide (p.letters.length<=8)&&
 (decide (p.kind=1\/p.kind=6\/p.kind=8)&&p.letters.all Zj||
 (decide (p.kind=5)&&decide (p.letters.length=3)&&p.letters.all Zj||
 (decide (p.kind=2\/p.kind=3\/p.kind=4)&&Wg p.letters 2||decide (p.kind=7)&&Wg p.letters 4)))
theorem jyD{p:Pat}(h:jmD p=true):p.Fit/\p.letters.length<=8:=by
 unfold jmD at h;simp only[Bool.or_eq_true,AR,decide_eq_true_eq,jzy]at h;obtain⟨a,h⟩:=h;refine⟨⟨O,?_⟩,a⟩;rcases h with h|h|h|h
 ·grind[ZZ]
 ·obtain⟨b,f,g,e⟩:=RA h.1.2;grind[ZZ]
 ·exact .inr (.inr (.inl ⟨h.1,λu v=>jhy _ _ [u,v] (AO _) h.2⟩))
 ·exact .inr (.inr (.inr ⟨h.1,λu v w z=>jhy _ _ [u,v,w,z] (AO _) h.2⟩))
def okB(p:Pat):Bool:=decide (p.letters≠[])&&decide (p.letters.length<=8)&&p.letters.all jlB&&decide (0<=p.n)&&decide (p.n<=1000)
theorem jhp{p:Pat}(h:okB p=true):p.Ok/\p.letters.length<=8/\0<=p.n/\p.n<=1000:=by
 unfold okB at h;simp only[AR,decide_eq_true_eq,jzy]at h;obtain⟨⟨⟨⟨a,b⟩,g⟩,e⟩,f⟩:=h;exact⟨⟨a,O,(by grind[jvq])⟩,b,e,f⟩
def jmQ(r:Rul):Bool:=r.prem.all jmD&&r.guards.all okB&&r.concl.all okB&&decide (r.prem.length<=3)&&decide (r.concl.length<=10)&&decide (r.guards.length<=10)
theorem joD{r:Rul}(h:jmQ r=true):r.Good:=by
 unfold jmQ at h;simp only[AR,decide_eq_true_eq,jzy]at h;obtain⟨⟨⟨⟨⟨f,g⟩,i⟩,a⟩,b⟩,e⟩:=h;exact⟨(by grind[jyD]),(by grind[jhp]),(by grind[jhp]),a,b,e⟩
theorem jAf: ∀n:Fin 29,jmQ (DW n)=true:=O6
theorem jbS(n:Nat):(DW n).Good:=by
 by_cases h:n<29
 ·exact joD (jAf ⟨n,h⟩)
 ·rw[Nh n O];exact joD O2
theorem jcL(n:Int):(rulT n).Good:=by
 obtain⟨a,b,e,f,g,h⟩:=jbS n.toNat;exact⟨a,b,e,f,g,h⟩
end Go.Va
namespace Go.Va
open _root_.List renaming flatMap_nil → aD, mem_iff_getElem → aG
open Go.Proofs Go.Shelf Go.RowKit Go.Lib Go.Sort
theorem jw7[DrC](a b:Fnd)(e:a.fact.Rt)(f:b.fact.Rt):CallsF Tryz.prog 105 [.agg a.ds,.agg b.ds] (.u (.c (.d (.int .i64 (UD a b))))):=by
 have k:=jhR a.fact b.fact e.mild f.mild e.num f.num;unfold UD;simp only[Fct.ds,Fnd.ds]at*;refine oA Tryz.func105 ?_;refine Ac k ?_;exact kA
theorem isCmp_N:IsCmp (λx:Fnd=>x.fact.Num) UD:=⟨λx y a b=>isCmp_F.rng _ _ a b,λx y a b=>isCmp_F.anti _ _ a b,λx y z a b e=>isCmp_F.tr _ _ _ a b e⟩
theorem jrP(i:Nat)(l:List Fnd)(app:Bool)(q:l.length<=1099511627776)(a:FndOk l):
  Fw Tryz.prog 104 [.c (.sl i 0 l.length),.c (.d (.fn 105 []))] [(i,.row 6 (l.flatMap Fnd.ds) app)] [(i,.row 6 ((Q0 UD l).flatMap Fnd.ds) app)] (.tup []):=by
 have k: ∀x y,x∈l->y∈l->UD x y=0->x=y:=by
  intro x y b g h;have e:x.fact=y.fact:=(WZ (a.rt x b) (a.rt y g)).1 h;obtain⟨i,hi,rfl⟩:=aG.1 b;obtain⟨j,m,rfl⟩:=aG.1 g;have o:=List.pairwise_iff_getElem.1 a.nd;rcases Nat.lt_trichotomy i j with h1|h1|h1
  ·exact absurd e (o i j hi m h1)
  ·subst h1;rfl
  ·exact absurd e.symm (o j i m hi h1)
 exact jiC (P:=λx=>x∈l) O Fnd.ds_len ⟨λx y b g=>isCmp_N.rng x y (a.rt x b).num (a.rt y g).num,λx y b g=>isCmp_N.anti x y (a.rt x b).num (a.rt y g).num,λx y z b g r=>isCmp_N.tr x y z (a.rt x b).num (a.rt y g).num (a.rt z r).num⟩
  (λx b=>(WZ (a.rt x b) (a.rt x b)).2 rfl) k Tryz.laysSF rfl ⟨_,Tryz.func104,rfl,O2⟩ Tryz.isAgg116 Tryz.sizeOf116 105
  (enters_of Tryz.func105 O4 rfl) (λx y b g=> @jw7 jd6 x y (a.rt x b) (a.rt y g)) i l app q (λf p=>p)
theorem jsH:CallsF Tryz.prog 104 [.c (.slice 0 []),.c (.fn 105 [])] (.tup []):=by
 refine⟨⟨_,Tryz.func104,rfl,O2⟩,λw Z vals G q=> ?_⟩;obtain⟨v,m,rfl⟩: ∃v m,vals=[v,m]:=by
  have:=q.1
  match vals,this with
  |[v,m],_=>exact⟨v,m,rfl⟩
 obtain⟨p,cap,rfl⟩: ∃p cap,v= .slice p 0 cap:=by
  have h:RepD w Z (.slice 0 []) v:=q.2 0 _ v rfl rfl;cases h with
  |slice n F a c J=>exact⟨some a,c,rfl⟩
  |snil=>exact⟨none,0,rfl⟩
 have l:=AnyF.slices_SortFunc_none Tryz.laysSF p cap m w;refine Calls.mono l λe K ⟨t,y⟩=> ?_;subst y;refine⟨_,t,Ext.refl _,by simp[R.rows],⟨0,0,0,0,true,true,true⟩,λE h=>(by cases h.1),λk=> ?_⟩;have g: ∀i,B3 k [] (⟨0,0,0,0,true,true,true⟩:Own) i=none:=λi=>rfl;exact⟨⟨[],rfl,by simp[R.imp],λj x v z=>by simp[R.imp]at z⟩,⟨⟨λj o f=>by(rw[R.rows,aD,g]at f;cases f),λj H o I f=>by(rw[R.rows,aD,g]at f;cases f),λj o f=>by(rw[R.rows,aD,g]at f;cases f)⟩,λi b r=>by cases r⟩⟩
end Go.Va
