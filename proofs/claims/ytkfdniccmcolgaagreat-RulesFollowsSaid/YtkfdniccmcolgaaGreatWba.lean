/- a part of the proof -/
import Derived.Test.YtkfdniccmcolgaaGreatWaz
import Derived.Test.YtkfdniccmcolgaaGreatWzL
set_option linter.all false
set_option maxHeartbeats 4000000
set_option maxRecDepth 10000
namespace Go.Va
open Int (natCast_add natCast_mul natCast_emod natCast_ediv natCast_pow)
open Go.Proofs
def BQ(l:List Fnd):D:= .slice l.length (l.flatMap Fnd.ds)
@[simp]theorem jiq(l:List Fnd):lenC (.d (BQ l))=some l.length:=rfl
@[simp]theorem jiy(l:List Fnd):D.flat (BQ l)=false:=rfl
@[simp]theorem jiN(l:List Grd):D.flat (grdsD l)=false:=rfl
@[simp]theorem jif(l:List Grd):lenC (.d (grdsD l))=some l.length:=rfl
@[simp]theorem jib(h:List (Nat×Blk))(i:Int)(l:List Fnd):idxSl h 6 i (.d (BQ l))=if 0≤i∧i<l.length then some (.d (.ref ((l.drop i.toNat).flatMap Fnd.ds))) else none:=by
 unfold BQ idxSl;simp only[LN,and_true,DZ Fnd.ds_len]
@[simp]theorem jij(h:List (Nat×Blk))(i:Int)(l:List Grd):idxSl h 2 i (.d (grdsD l))=if 0≤i∧i<l.length then some (.d (.ref ((l.drop i.toNat).flatMap Grd.ds))) else none:=by
 unfold grdsD idxSl;simp only[H5,and_true,DZ Grd.ds_len]
theorem IU{l:List Fnd}{i:Nat}(h:i<l.length):(l.drop i).flatMap Fnd.ds= .int .i64 l[i].fact.kind::intsD l[i].fact.args:: .bool l[i].fact.neg::Ab l[i].fact.abs::Ab l[i].fact.den::grdsD l[i].grds::(l.drop (i+1)).flatMap Fnd.ds:=by
 rw[AD h];rfl
theorem F8{l:List Grd}{i:Nat}(h:i<l.length):(l.drop i).flatMap Grd.ds= .int .i64 l[i].kind::intsD l[i].args::(l.drop (i+1)).flatMap Grd.ds:=by
 rw[AD h];rfl
theorem UY(g f:Fct)(hg:g.Rt)(hf:f.Rt):CallsF Tryz.prog 49 [.agg f.ds,.c (.ref g.ds)] (.u (.c (.d (.bool (decide (Aw g f=0)))))):=by
 have k1:=MD g f hg.mild hf.mild hg.num hf.num;clear hg hf;simp only[Fct.ds]at*;refine Ae (T:=tb) Ad mixed Tryz.func49 rfl (by decide) (Ac rfl) rfl ?_;unfold St.init
 simp -implicitDefEqProofs[jJ,-natCast_add,-natCast_mul];refine Aa k1 ?_;simp -implicitDefEqProofs[jJ,-natCast_add,-natCast_mul]
theorem jeR(g:Fct)(l:List Fct)(hg:g.Rt)(hl: ∀f∈l,f.Rt)(hn:l.length≤1099511627776):CallsF Tryz.prog 104 [.c (fctsD l),.c (.fn 49 [.ref g.ds])] (.u (.c (.d (.int .i64 (CE g l 0))))):=by
 have k:=fun f hf=>UY g f hg (hl f hf)
 clear hg hl;generalize hr:D.ref g.ds=rg at*;clear hr;refine Ae (T:=tb) Ad mixed Tryz.func104 rfl (by decide) (Ac rfl) rfl ?_;unfold St.init
 simp -implicitDefEqProofs[jJ,-natCast_add,-natCast_mul];refine Av (fun i:Nat=>⟨[(8,vI .i64 i),(7,vI .i64 l.length),(0,vC (.d (fctsD l))),(1,vC (.d (.fn 49 [rg])))],[]⟩) (fun i=>i≤l.length∧CE g (l.drop i) i=CE g l 0) (fun i=>l.length - i) 0 (by simp) ⟨by omega,rfl⟩ ?_
 rintro i ⟨h1,h2⟩
 by_cases h:i<l.length
 ·have e:=Uu (g:=g) h;have k:=k l[i] (Ak h);have e2:=DO h;simp only[Fct.ds]at k;by_cases h0:Aw g l[i]=0
  ·rw[if_pos h0]at e
   simp -implicitDefEqProofs[jJ,-natCast_add,-natCast_mul,h,e2];refine Aa k ?_;simp -implicitDefEqProofs[jJ,-natCast_add,-natCast_mul,h0];rw[←h2,e]
  ·rw[if_neg h0]at e
   simp -implicitDefEqProofs[jJ,-natCast_add,-natCast_mul,h,e2];refine Aa k ?_;simp -implicitDefEqProofs[jJ,-natCast_add,-natCast_mul,h0];exact⟨by omega,⟨by omega,by rw[←e,h2]⟩,by omega⟩
 ·have:i=l.length:=by omega
  subst this;rw[List.drop_length]at h2;simp -implicitDefEqProofs[jJ,-natCast_add,-natCast_mul];exact h2
theorem TR(g:Fct)(l:List Fct)(hg:g.Rt)(hl: ∀f∈l,f.Rt)(hn:l.length≤1099511627776):CallsF Tryz.prog 51 [.c (fctsD l),.c (.fn 49 [.ref g.ds])] (.u (.c (.d (.bool (CH g l))))):=by
 have k:=jeR g l hg hl hn;have e:=VD g l 0;clear hg hl;generalize hr:D.ref g.ds=rg at*;clear hr;refine Ae (T:=tb) Ad mixed Tryz.func51 rfl (by decide) (Ac rfl) rfl ?_;unfold St.init
 simp -implicitDefEqProofs[jJ,-natCast_add,-natCast_mul];refine Aa k ?_;simp -implicitDefEqProofs[jJ,-natCast_add,-natCast_mul,e]
theorem jcv(g:Fct)(x:Fnd)(hg:g.Rt)(hx:x.fact.Rt):CallsF Tryz.prog 53 [.agg x.ds,.c (.ref [.fn 49 [.ref g.ds]])] (.u (.c (.d (.bool (decide (Aw g x.fact=0)))))):=by
 have k1:=UY g x.fact hg hx;clear hg hx;generalize hr:D.ref g.ds=rg at*;clear hr;simp only[Fct.ds,Fnd.ds]at*;refine Ae (T:=tb) Ad mixed Tryz.func53 rfl (by decide) (Ac rfl) rfl ?_;unfold St.init
 simp -implicitDefEqProofs[jJ,-natCast_add,-natCast_mul];refine Aa k1 ?_;simp -implicitDefEqProofs[jJ,-natCast_add,-natCast_mul]
theorem Ul(g:Fct)(l:List Fnd)(hg:g.Rt)(hl: ∀x∈l,x.fact.Rt)(hn:l.length≤1099511627776):CallsF Tryz.prog 52 [.c (BQ l),.c (.fn 53 [.ref [.fn 49 [.ref g.ds]]])] (.u (.c (.d (.int .i64 (CE g (l.map Fnd.fact) 0))))):=by
 have k:=fun f hf=>jcv g f hg (hl f hf)
 clear hg hl;generalize hr:D.ref [D.fn 49 [.ref g.ds]]=rg at*;clear hr;refine Ae (T:=tb) Ad mixed Tryz.func52 rfl (by decide) (Ac rfl) rfl ?_;unfold St.init
 simp -implicitDefEqProofs[jJ,-natCast_add,-natCast_mul];refine Av (fun i:Nat=>⟨[(8,vI .i64 i),(7,vI .i64 l.length),(0,vC (.d (BQ l))),(1,vC (.d (.fn 53 [rg])))],[]⟩) (fun i=>i≤l.length∧CE g ((l.map Fnd.fact).drop i) i=CE g (l.map Fnd.fact) 0) (fun i=>l.length - i) 0 (by simp) ⟨by omega,rfl⟩ ?_
 rintro i ⟨h1,h2⟩
 by_cases h:i<l.length
 ·have e:=Uu (g:=g) (l:=l.map Fnd.fact) (i:=i) (by simpa using h)
  rw[List.getElem_map]at e
  have k:=k l[i] (Ak h);have e2:=IU h;simp only[Fnd.ds]at k;by_cases h0:Aw g l[i].fact=0
  ·rw[if_pos h0]at e
   simp -implicitDefEqProofs[jJ,-natCast_add,-natCast_mul,h,e2];refine Aa k ?_;simp -implicitDefEqProofs[jJ,-natCast_add,-natCast_mul,h0];rw[←h2,e]
  ·rw[if_neg h0]at e
   simp -implicitDefEqProofs[jJ,-natCast_add,-natCast_mul,h,e2];refine Aa k ?_;simp -implicitDefEqProofs[jJ,-natCast_add,-natCast_mul,h0];exact⟨by omega,⟨by omega,by rw[←e,h2]⟩,by omega⟩
 ·have:i=l.length:=by omega
  subst this;rw[B7 (by simp)]at h2
  simp -implicitDefEqProofs[jJ,-natCast_add,-natCast_mul];exact h2
theorem ZQ(a b:List Grd)(ha: ∀g∈a,g.Short)(hb: ∀g∈b,g.Short)(hal:a.length≤1000)(hbl:b.length≤1000):
  CallsF Tryz.prog 105 [.c (grdsD a),.c (grdsD b),.c (.fn 60 [])] (.u (.c (.d (.int .i64 (Bx a b))))):=by
 have k:=fun x hx y hy=>Om x y (ha x hx) (hb y hy)
 simp only[Grd.ds]at k;clear ha hb;refine Ae (T:=tb) Ad mixed Tryz.func105 rfl (by decide) (Ac rfl) rfl ?_;unfold St.init
 simp -implicitDefEqProofs[jJ,-natCast_add,-natCast_mul];refine Av (fun i:Nat=>⟨[(13,vI .i64 i),(12,vI .i64 a.length),(11,vC (.d (grdsD a))),(0,vC (.d (grdsD a))),(1,vC (.d (grdsD b))),(2,vC (.d (.fn 60 [])))],[]⟩) (fun i=>i≤a.length∧i≤b.length∧Bx (a.drop i) (b.drop i)=Bx a b) (fun i=>a.length - i) 0 (by simp) ⟨by omega,by omega,rfl⟩ ?_
 rintro i ⟨h1,h1b,h2⟩
 by_cases h:i<a.length
 ·have ea:=F8 h;by_cases hB:i<b.length
  ·have eb:=F8 hB;have k:=k a[i] (Ak h) b[i] (Ak hB);have e:Bx (a.drop i) (b.drop i)=if cmpG a[i] b[i]≠0 then cmpG a[i] b[i] else Bx (a.drop (i+1)) (b.drop (i+1)):=by
    rw[AD h,AD hB];rfl
   rw[e]at h2
   have nb: ¬b.length≤i:=by omega
   generalize cmpG a[i] b[i]=r at*;by_cases h0:r=0
   ·rw[if_neg (by simp[h0])]at h2
    simp -implicitDefEqProofs[jJ,-natCast_add,-natCast_mul,h,ea,hB,eb,nb];refine Aa k ?_;simp -implicitDefEqProofs[jJ,-natCast_add,-natCast_mul,h0];exact⟨by omega,⟨by omega,by omega,h2⟩,by omega⟩
   ·rw[if_pos h0]at h2
    subst h2;simp -implicitDefEqProofs[jJ,-natCast_add,-natCast_mul,h,ea,hB,eb,nb];refine Aa k ?_;simp -implicitDefEqProofs[jJ,-natCast_add,-natCast_mul,h0]
  ·have hbi:b.length=i:=by omega
   have e:Bx a b=1:=by
    rw[←h2,AD h,B7 (by omega:b.length≤i)];rfl
   have nb:b.length≤i:=by omega
   simp -implicitDefEqProofs[jJ,-natCast_add,-natCast_mul,h,ea,nb,e]
 ·have hi:i=a.length:=by omega
  by_cases hB:a.length<b.length
  ·have e:Bx a b= -1:=by
    rw[←h2,B7 (by omega:a.length≤i),AD (by omega:i<b.length)];rfl
   simp -implicitDefEqProofs[jJ,-natCast_add,-natCast_mul,h,hB,e]
  ·have e:Bx a b=0:=by
    rw[←h2,B7 (by omega:a.length≤i),B7 (by omega:b.length≤i)];rfl
   simp -implicitDefEqProofs[jJ,-natCast_add,-natCast_mul,h,hB,e]
theorem jbE(a b:List Grd)(ha: ∀g∈a,g.Short)(hb: ∀g∈b,g.Short)(hal:a.length≤1000)(hbl:b.length≤1000):
  CallsF Tryz.prog 54 [.c (grdsD a),.c (grdsD b)] (.u (.c (.d (.bool (BF a b))))):=by
 have k:=ZQ a b ha hb hal hbl;unfold BF;refine Ae (T:=tb) Ad mixed Tryz.func54 rfl (by decide) (Ac rfl) rfl ?_;unfold St.init
 by_cases h:a.length=b.length
 ·simp -implicitDefEqProofs[jJ,-natCast_add,-natCast_mul,h];refine Aa k ?_;simp -implicitDefEqProofs[jJ,-natCast_add,-natCast_mul]
 ·simp -implicitDefEqProofs[jJ,-natCast_add,-natCast_mul,h]
def CX(nl:List Fct)(l:List Fnd):List (Nat×Blk):=
 if l=[] then [(9,.box [.nl]),(6,.box [.d (fctsD nl)])]
 else [(9,.box [.sl 80 0 l.length]),(80,.row 6 (l.flatMap Fnd.ds) true),(6,.box [.d (fctsD nl)])]
theorem Gr(nl:List Fct):CX nl []=[(9,.box [.nl]),(6,.box [.d (fctsD nl)])]:=rfl
theorem GC(nl:List Fct){l:List Fnd}(h:l≠[]):CX nl l=[(9,.box [.sl 80 0 l.length]),(80,.row 6 (l.flatMap Fnd.ds) true),(6,.box [.d (fctsD nl)])]:=if_neg h
theorem Fz(nl:List Fct)(l:List Fnd)(e:Exit)(he:e= .ret∨e= .normal)(st:St)(rs:List (Nat×Nat))(h1:An (rns rs st).t (Cn 2 [.ptr 6 0,.ptr 9 0]))(h2:An (rns rs st).h (CX nl l)):N9 2 [.ptr 6 0,.ptr 9 0] (CX nl l) e st:=by
 refine⟨he,rs,h1,h2,?_,?_⟩
 ·intro c hc i hi;unfold CX;simp only[jzn,AM,or_false]at hc;rcases hc with rfl|rfl<;>(simp[C.id?]at hi;subst hi;split<;>simp)
 ·intro i b hb;unfold CX at hb ⊢;split at hb
  ·rename_i h0
   rw[if_pos h0]
   simp only[lk]at hb;split at hb
   ·cases hb;intro c hc j hj;simp at hc;subst hc;simp[C.id?]at hj
   ·split at hb
    ·cases hb;intro c hc j hj;simp at hc;subst hc;simp[C.id?]at hj
    ·cases hb
  ·rename_i h0
   rw[if_neg h0]
   simp only[lk]at hb;split at hb
   ·cases hb;intro c hc j hj;simp at hc;subst hc;simp[C.id?]at hj;subst hj;simp
   ·split at hb
    ·cases hb;trivial
    ·split at hb
     ·cases hb;intro c hc j hj;simp at hc;subst hc;simp[C.id?]at hj
     ·cases hb
@[simp]theorem IV(l:List Fnd):(l.flatMap Fnd.ds).take (l.length*6)=l.flatMap Fnd.ds:=AI (by rw[LN];omega)
@[simp]theorem jig(l:List Fnd):D.slice l.length (l.flatMap Fnd.ds)=BQ l:=rfl
theorem G5{nl:List Fct}{l:List Fnd}{F:Fct}{g:List Grd}(h:F.kind=0∨Dd F=true∨CH F nl=true):Ef nl l F g=l:=if_pos h
theorem Ox{nl:List Fct}{l:List Fnd}{F:Fct}{g:List Grd}(h: ¬(F.kind=0∨Dd F=true∨CH F nl=true))(hi:CE F (l.map Fnd.fact) 0= -1):Ef nl l F g=l++[⟨F,g⟩]:=by
 unfold Ef;rw[if_neg h];simp only[hi];rw[if_pos (by omega)]
theorem PQ{nl:List Fct}{l:List Fnd}{F:Fct}{g:List Grd}{k:Nat}(h: ¬(F.kind=0∨Dd F=true∨CH F nl=true))(hk:k<l.length)(hi:CE F (l.map Fnd.fact) 0=k):Ef nl l F g=if BF g l[k].grds then l.set k ⟨l[k].fact,g⟩ else l:=by
 unfold Ef;rw[if_neg h];simp only[hi];rw[if_neg (by omega),Int.toNat_natCast,Ai hk]
theorem Mx(l:List Fnd)(k t:Nat)(hk:k<l.length)(ht:t<6):(l.flatMap Fnd.ds)[k*6+t]? =l[k].ds[t]? :=by
 have h:((l.flatMap Fnd.ds).drop (k*6)).take 6=l[k].ds:=G1 Fnd.ds_len l k hk
 rw[←h,List.getElem?_take,if_pos ht,List.getElem?_drop]
theorem SK(l:List Fnd)(k:Nat)(g:List Grd)(hk:k<l.length):splice (k*6+5) [grdsD g] (l.flatMap Fnd.ds)=(l.set k ⟨l[k].fact,g⟩).flatMap Fnd.ds:=by
 have hlen:=LN l;rw[←LU Fnd.ds_len l k ⟨l[k].fact,g⟩ hk]
 apply List.ext_getElem?
 intro j;rw[CL _ _ _ (by simp;omega),CL _ _ _ (by rw[Fnd.ds_len];omega)]
 by_cases h1:k*6≤j∧j<k*6+6
 ·obtain⟨t,rfl⟩: ∃t,j=k*6+t:=⟨j - k*6,by omega⟩
  have hg:=Mx l k t hk (by omega)
  rw[if_pos (show k*6≤k*6+t∧k*6+t<k*6+(Fnd.ds ⟨l[k].fact,g⟩).length by rw[Fnd.ds_len];omega)]
  by_cases h5:t=5
  ·subst h5;rw[if_pos (by simp)]
   simp[Fnd.ds]
  ·rw[if_neg (by simp;omega),hg,Nat.add_sub_cancel_left]
   match t,h1,h5 with
   |0,_,_=>rfl
   |1,_,_=>rfl
   |2,_,_=>rfl
   |3,_,_=>rfl
   |4,_,_=>rfl
   |5,_,h=>exact absurd rfl h
   |t+6,h,_=>omega
 ·rw[if_neg (by simp;omega),if_neg (by rw[Fnd.ds_len];omega)]
theorem jeA(nl:List Fct)(l:List Fnd)(f:Fct)(g:List Grd)(hm:f.Mild)(hn: ∀x∈nl,x.Rt)(hnl:nl.length≤1000)(hl:FndOk l)(hll:l.length≤100000000000)(hg:g.length≤10∧ ∀x∈g,x.Short):
  H8 Tryz.prog 48 [.agg f.ds,.c (grdsD g)] [.ptr 6 0,.ptr 9 0] (CX nl l) (CX nl (G0 nl l f g)):=by
 have k1:=LL f hm;have hrt:=Ca (f:=f) hm;unfold G0;simp only[Fct.ds]at k1;generalize hF:normF f=F at*;clear hF;generalize hH:CX nl (Ef nl l F g)=H;by_cases h0:l=[]
 ·subst h0;rw[Gr];refine UB [(1000006,6),(1000009,9)] (T:=tb) Ad mixed Tryz.func48 rfl (by decide) (Ac rfl) (Ac rfl) rfl rfl ?_;unfold St.initX
  simp -implicitDefEqProofs[jJ,-natCast_add,-natCast_mul,-List.map_set,-List.reduceReplicate,Cn];refine Aa k1 ?_;simp -implicitDefEqProofs[jJ,-natCast_add,-natCast_mul,-List.map_set,-List.reduceReplicate,Fct.res];refine⟨fun hk=> ?_,fun hk=> ?_⟩
  ·have hrt:=hrt hk;have k2:=Rm F hrt.mild;have k3:=TR F nl hrt hn (by omega)
   have k4:=Ul F [] hrt (by simp) (by simp)
   simp only[Fct.ds]at k2 k3 k4;refine Aa k2 ?_;cases ht:Dd F with
   |true=>
    simp -implicitDefEqProofs[jJ,-natCast_add,-natCast_mul,-List.map_set,-List.reduceReplicate];rw[G5 (.inr (.inl ht))]at hH;subst hH;refine Fz nl [] _ (by simp) _ [(6,1000006),(9,1000009)] ?_ ?_
    ·simp -implicitDefEqProofs[jJ,-natCast_add,-natCast_mul,-List.map_set,-List.reduceReplicate,An,lk,Cn]
    ·simp -implicitDefEqProofs[jJ,-natCast_add,-natCast_mul,-List.map_set,-List.reduceReplicate,An,lk,Gr]
   |false=>
    simp -implicitDefEqProofs[jJ,-natCast_add,-natCast_mul,-List.map_set,-List.reduceReplicate];refine Aa k3 ?_;cases ha:CH F nl with
    |true=>
     simp -implicitDefEqProofs[jJ,-natCast_add,-natCast_mul,-List.map_set,-List.reduceReplicate];rw[G5 (.inr (.inr ha))]at hH;subst hH;refine Fz nl [] _ (by simp) _ [(6,1000006),(9,1000009)] ?_ ?_
     ·simp -implicitDefEqProofs[jJ,-natCast_add,-natCast_mul,-List.map_set,-List.reduceReplicate,An,lk,Cn]
     ·simp -implicitDefEqProofs[jJ,-natCast_add,-natCast_mul,-List.map_set,-List.reduceReplicate,An,lk,Gr]
    |false=>
     simp -implicitDefEqProofs[jJ,-natCast_add,-natCast_mul,-List.map_set,-List.reduceReplicate];simp only[BQ,List.length_nil,List.flatMap_nil]at k4;refine Aa k4 ?_;simp -implicitDefEqProofs[jJ,-natCast_add,-natCast_mul,-List.map_set,-List.reduceReplicate,CE];rw[Ox (by simp[hk,ht,ha]) rfl]at hH
     subst hH;refine Fz nl _ _ (by simp) _ [(6,1000006),(9,1000009),(80,33)] ?_ ?_
     ·simp -implicitDefEqProofs[jJ,-natCast_add,-natCast_mul,-List.map_set,-List.reduceReplicate,An,lk,Cn]
     ·simp -implicitDefEqProofs[jJ,-natCast_add,-natCast_mul,-List.map_set,-List.reduceReplicate,An,lk,CX,Fnd.ds]
  ·rw[G5 (.inl hk)]at hH
   subst hH;refine Fz nl [] _ (by simp) _ [(6,1000006),(9,1000009)] ?_ ?_
   ·simp -implicitDefEqProofs[jJ,-natCast_add,-natCast_mul,-List.map_set,-List.reduceReplicate,An,lk,Cn]
   ·simp -implicitDefEqProofs[jJ,-natCast_add,-natCast_mul,-List.map_set,-List.reduceReplicate,An,lk,Gr]
 ·rw[GC nl h0]
  refine UB [(1000006,6),(1000009,9),(1000080,80)] (T:=tb) Ad mixed Tryz.func48 rfl (by decide) (Ac rfl) (Ac rfl) rfl rfl ?_;unfold St.initX
  simp -implicitDefEqProofs[jJ,-natCast_add,-natCast_mul,-List.map_set,-List.reduceReplicate,Cn];refine Aa k1 ?_;simp -implicitDefEqProofs[jJ,-natCast_add,-natCast_mul,-List.map_set,-List.reduceReplicate,Fct.res];refine⟨fun hk=> ?_,fun hk=> ?_⟩
  ·have hrt:=hrt hk;have k2:=Rm F hrt.mild;have k3:=TR F nl hrt hn (by omega)
   have k4:=Ul F l hrt hl.rt (by omega)
   simp only[Fct.ds]at k2 k3 k4;refine Aa k2 ?_;cases ht:Dd F with
   |true=>
    simp -implicitDefEqProofs[jJ,-natCast_add,-natCast_mul,-List.map_set,-List.reduceReplicate];rw[G5 (.inr (.inl ht))]at hH;subst hH;refine Fz nl l _ (by simp) _ [(6,1000006),(9,1000009),(80,1000080)] ?_ ?_
    ·simp -implicitDefEqProofs[jJ,-natCast_add,-natCast_mul,-List.map_set,-List.reduceReplicate,An,lk,Cn]
    ·simp -implicitDefEqProofs[jJ,-natCast_add,-natCast_mul,-List.map_set,-List.reduceReplicate,An,lk,GC nl h0]
   |false=>
    simp -implicitDefEqProofs[jJ,-natCast_add,-natCast_mul,-List.map_set,-List.reduceReplicate];refine Aa k3 ?_;cases ha:CH F nl with
    |true=>
     simp -implicitDefEqProofs[jJ,-natCast_add,-natCast_mul,-List.map_set,-List.reduceReplicate];rw[G5 (.inr (.inr ha))]at hH;subst hH;refine Fz nl l _ (by simp) _ [(6,1000006),(9,1000009),(80,1000080)] ?_ ?_
     ·simp -implicitDefEqProofs[jJ,-natCast_add,-natCast_mul,-List.map_set,-List.reduceReplicate,An,lk,Cn]
     ·simp -implicitDefEqProofs[jJ,-natCast_add,-natCast_mul,-List.map_set,-List.reduceReplicate,An,lk,GC nl h0]
    |false=>
     simp -implicitDefEqProofs[jJ,-natCast_add,-natCast_mul,-List.map_set,-List.reduceReplicate];refine Aa k4 ?_;rcases K1 F (l.map Fnd.fact) 0 with⟨hi,_⟩|⟨k,hkl,hi,_⟩
     ·rw[Ox (by simp[hk,ht,ha]) hi]at hH
      subst hH;simp -implicitDefEqProofs[jJ,-natCast_add,-natCast_mul,-List.map_set,-List.reduceReplicate,hi];refine⟨⟨by omega,by omega⟩,?_⟩
      refine Fz nl _ _ (by simp) _ [(6,1000006),(9,1000009),(80,33)] ?_ ?_
      ·simp -implicitDefEqProofs[jJ,-natCast_add,-natCast_mul,-List.map_set,-List.reduceReplicate,An,lk,Cn]
      ·simp -implicitDefEqProofs[jJ,-natCast_add,-natCast_mul,-List.map_set,-List.reduceReplicate,An,lk,CX,Fnd.ds]
     ·rw[List.length_map]at hkl
      rw[Nat.zero_add]at hi
      rw[PQ (by simp[hk,ht,ha]) hkl hi]at hH
      have g5:=Mx l k 5 hkl (by omega)
      simp only[Fnd.ds,List.getElem?_cons_succ,List.getElem?_cons_zero]at g5;have hsh:=hl.sh l[k] (Ak hkl);have k5:=jbE g l[k].grds hg.2 hsh.2 (by omega) (by omega)
      simp -implicitDefEqProofs[jJ,-natCast_add,-natCast_mul,-List.map_set,-List.reduceReplicate,hi,hkl,g5];refine Aa k5 ?_;cases he:BF g l[k].grds with
      |false=>
       rw[he,if_neg (by simp)]at hH
       subst hH;simp -implicitDefEqProofs[jJ,-natCast_add,-natCast_mul,-List.map_set,-List.reduceReplicate];refine Fz nl _ _ (by simp) _ [(6,1000006),(9,1000009),(80,1000080)] ?_ ?_
       ·simp -implicitDefEqProofs[jJ,-natCast_add,-natCast_mul,-List.map_set,-List.reduceReplicate,An,lk,Cn]
       ·simp -implicitDefEqProofs[jJ,-natCast_add,-natCast_mul,-List.map_set,-List.reduceReplicate,An,lk,GC nl h0]
      |true=>
       rw[he,if_pos rfl]at hH
       subst hH;simp -implicitDefEqProofs[jJ,-natCast_add,-natCast_mul,-List.map_set,-List.reduceReplicate,hkl];have hset:l.set k ⟨l[k].fact,g⟩≠[]:=by
        intro e;have:=congrArg List.length e;simp at this;exact h0 this
       refine⟨by omega,?_⟩
       refine Fz nl _ _ (by simp) _ [(6,1000006),(9,1000009),(80,1000080)] ?_ ?_
       ·simp -implicitDefEqProofs[jJ,-natCast_add,-natCast_mul,-List.map_set,-List.reduceReplicate,An,lk,Cn]
       ·rw[GC nl hset]
        simp -implicitDefEqProofs[jJ,-natCast_add,-natCast_mul,-List.map_set,-List.reduceReplicate,An,lk,SK l k g hkl]
  ·rw[G5 (.inl hk)]at hH
   subst hH;refine Fz nl l _ (by simp) _ [(6,1000006),(9,1000009),(80,1000080)] ?_ ?_
   ·simp -implicitDefEqProofs[jJ,-natCast_add,-natCast_mul,-List.map_set,-List.reduceReplicate,An,lk,Cn]
   ·simp -implicitDefEqProofs[jJ,-natCast_add,-natCast_mul,-List.map_set,-List.reduceReplicate,An,lk,GC nl h0]
end Go.Va
