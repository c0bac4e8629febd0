/- a part of the proof -/
import Derived.Test.YtplacedebenpaaaGreatDoorEbn
import Derived.Test.YtplacedebenpaaaGreatDoorEbh
import Derived.Test.YtplacedebenpaaaGreatDoorEbj
import Derived.Test.YtplacedebenpaaaGreatDoorEat
import Derived.Test.YtplacedebenpaaaGreatDoorEau
import Derived.Test.YtplacedebenpaaaGreatDoorEav
import Derived.Test.YtplacedebenpaaaGreatDoorEbd
import Derived.Test.YtplacedebenpaaaGreatDoorEar
import Derived.Test.YtplacedebenpaaaGreatDoorEas
set_option linter.all false
set_option maxHeartbeats 4000000
set_option maxRecDepth 100000
namespace Go.Va
open _root_.List renaming map_set → aD, length_map → aI, length_append → aL, singleton_append → aM, flatMap_append → aO, map_replicate → aP, getElem?_set → aS, drop_length → aT, getElem_map → aU, nil_append → aW, drop_zero → aX, replicate → aY
open _root_.And renaming intro → aG
open _root_.Int renaming toNat_natCast → aH
open _root_.Bool renaming false_and → aJ, true_and → aN, false_eq_true → aR
open Int renaming natCast_add → qA, natCast_mul → qB
open List renaming reduceReplicate → qF
open Go.Proofs Go.Proofs.Tryz
def joS:List (List Nat):=(Ah [0,1,0,7,15,31,0,127])
@[simp]def jsm:List Seg:=[.any [] [] (Aq [[2],[13],[5],[14,15],[16],[17],[3]]),.one]
def jqf:List (List Nat):=(Ah [0,1,0,0,8,0,56,120,248,0,1016,2040,4092,8188,16380,32767,65535,131071])
@[simp]def jsI:List Seg:=[.any [] [142] ([⟨0,[14],[142],[142],[]⟩,⟨0,[128],[142],[142],[]⟩]++AG [142] [[11],[2],[131],[13],[132,133],[134],[135],[17],[136,137],[138],[130,139],[140]]++[⟨1,[141],[],[],[]⟩]),.one,.one,.one]
def jsx:List (List Nat):=(Ah [0,1,0,0,12,28,63,127,255])
@[simp]def joq:List Seg:=[.any [] [] (Aq [[12],[166],[18],[20],[168,169],[170]]),.one,.one,.one]
theorem jpi(ds:List Der)(j:List Grd)(f:Fct)(p:Der->Bool)(v:ds.length<=1000000)
  (a: ∀x∈ds,CallsF prog 59 [.agg x.fact.ds,.agg f.ds] (.u (.c (.d (.bool (p x)))))):
  CallsF prog 25 [.agg [Dh ds,Dd j],.agg f.ds] (.u (.c (.d (.int .i64 (Lp p ds 0))))):=by
 obtain⟨q,r,o,l,m⟩:=f;simp only[Fct.ds]at*;refine cO func25 rfl ?_;simp -implicitDefEqProofs[jJ,-qA,-qB,-aD];refine AV (λi:Nat=>⟨[(5,vI .i64 i),(3,vC (.ptr 3 0)),(2,vC (.ptr 2 0))],[(3,.box [.d (.int .i64 q),.d (AT r),.d (.bool o),.d (Ad l),.d (Ad m)]),(2,.box [.d (Dh ds),.d (Dd j)])]⟩) (λi=>i<=ds.length/\Lp p (ds.drop i) i=Lp p ds 0) (λi=>ds.length - i) 0 (by simp[AW,lk,St.le,vI,vC]) ⟨O,by rw[aX]⟩ ?_;rintro i ⟨t,b⟩;by_cases h:i<ds.length
 ·have e:=jqF (p:=p) h;have a:=a ds[i] (AZ h);have g:=XA h;cases k:p ds[i]with
  |true=>
   rw[k]at a e;rw[if_pos rfl]at e;simp -implicitDefEqProofs[jJ,-qA,-qB,-aD,h];refine AA joS jsm O5 ?_;simp -implicitDefEqProofs[jJ,-qA,-qB,-aD,h,g];refine Ac a ?_;simp -implicitDefEqProofs[jJ,-qA,-qB,-aD];rw[<-b,e]
  |false=>
   rw[k]at a e;rw[if_neg O1]at e;simp -implicitDefEqProofs[jJ,-qA,-qB,-aD,h];refine AA joS jsm O5 ?_;simp -implicitDefEqProofs[jJ,-qA,-qB,-aD,h,g];refine Ac a ?_;simp -implicitDefEqProofs[jJ,-qA,-qB,-aD];exact⟨O,⟨O,by rw[<-e,b]⟩,O⟩
 ·have:i=ds.length:=O;subst this;rw[aT]at b;simp -implicitDefEqProofs[jJ,-qA,-qB,-aD];exact b
theorem jez(ds:List Der)(l:List Int):(prem ds l).length=l.length:=by unfold prem;rw[aI]
theorem jAZ(ds:List Der)(w:List Grd)(i:Nat)(hi:i<ds.length)(J:ds.length<=1000000)(I:ds[i].frm.length<=1000000):
  CallsF prog 26 [.agg [Dh ds,Dd w],.c (.int .i64 i)]
   (.tup [.c (.d (if okX i ds[i].frm=true then C1 (prem ds ds[i].frm) else .slice 0 [])),.c (.d (.bool (okX i ds[i].frm)))]):=by
 have j:=XA hi;obtain⟨W,hW⟩: ∃W,W=okX i ds[i].frm:=⟨_,rfl⟩;rw[<-hW];unfold okX at hW;generalize ds[i].frm=b at*;refine cO func26 rfl ?_;simp -implicitDefEqProofs[jJ,-qA,-qB,-aD];refine CE [(6,44)] (λk:Nat=>⟨[(7,vI .i64 k),(6,vC (.sl 6 0 k)),(2,vC (.ptr 2 0)),(1,vI .i64 i)],[(6,.row 5 (((prem ds b).take k).flatMap Fct.ds) true),(2,.box [.d (Dh ds),.d (Dd w)])]⟩) (λk=>k<=b.length/\CB (λa=>decide (0<=a/\a<(i:Int))) b k) (λk=>b.length - k) 0 (by simp[AW,lk,St.le,vI,vC]) ⟨O,HJ _ _⟩ ?_;rintro k ⟨H,o⟩;by_cases h:k<b.length
 ·have z:b[k]? =some b[k]:=AD h;have x:=λq=>Iu h o q;have g:=λq=>Is h (p:=λa=>decide (0<=a/\a<(i:Int))) q;clear o;obtain⟨a,hfa⟩: ∃a,b[k]=a:=⟨_,rfl⟩;rw[hfa]at x g z;by_cases E:0<=a/\a<(i:Int)
  ·have e: ¬a<0:=O;have v: ¬(i:Int)<=a:=O;obtain⟨m,rfl⟩: ∃m:Nat,a=m:=⟨a.toNat,O⟩
   have t:m<ds.length:=O;have K: ¬i<=m:=O;have y:=XA (l:=ds) (i:=m) t;have G:(prem ds b).take (k+1)=(prem ds b).take k++[ds[m].fact]:=by
    rw[Cr (by rw[jez];exact h)];unfold prem;rw[aU,hfa,aH,AL,Bf,AD t];rfl
   have f:min k (prem ds b).length=k:=by rw[jez];omega
   simp -implicitDefEqProofs[jJ,-qA,-qB,-aD,hi,j,h,hfa,i64,e,v,t,y,f]
   repeat refine aG O ?_
   refine⟨k+1,⟨rfl,by rw[G,aO];simp[Fct.ds]⟩,⟨O,by simpa using x (by simp;omega)⟩,O⟩
  ·have e:a<0\/ ¬a<0/\(i:Int)<=a:=O;rw[g (by simpa using E)]at hW;subst hW;rcases e with e|⟨e,v⟩
   ·simp -implicitDefEqProofs[jJ,-qA,-qB,-aD,hi,j,h,hfa,i64,e]
   ·simp -implicitDefEqProofs[jJ,-qA,-qB,-aD,hi,j,h,hfa,i64,e,v]
 ·have:k=b.length:=O;subst this;rw[HZ o]at hW;subst hW;have F:(prem ds b).take b.length=prem ds b:=Ba (by rw[jez];omega);rw[F];simp -implicitDefEqProofs[jJ,-qA,-qB,-aD,hi,j];have r:=jez ds b;refine⟨by rw[r];exact AO _,?_⟩;rw[Ba (by rw[Qw (k:=5) (λ_=>rfl),r];exact AO _),<-r];rfl
def TE(l:List Grd):C:=if l=[] then .nl else .d (Dd (Nw l))
@[simp]theorem gdC_on(f:Nat->C->C)(l:List Grd):C.on f (TE l)=TE l:=by
 unfold TE;split<;>rfl
theorem juy(l:List Grd)(g:Grd):Nw (l++[g])=Ka (Nw l) g:=by
 rw[jhK,jhK,List.foldl_append];rfl
theorem jop:Nw []=[]:=by rw[jhK];rfl
def jga(ds:List Der)(a:List Grd)(i:Nat)(x:Nat×List Bool):St:=
 ⟨[(8,vI .i64 ((x.1:Int) - 1)),(7,vC (.sl 30 0 ds.length)),(6,vI .i64 i),(4,vC (.ptr 4 0)),(2,vC (.ptr 2 0))],[(30,.row 1 (x.2.map D.bool) true),(4,.box [.nl,.nl]),(2,.box [.d (Dh ds),.d (Dd a)])]⟩
def ja0(ds:List Der)(a:List Grd)(i k:Nat)(x:Nat×List Bool):St:=
 ⟨[(9,vI .i64 x.1),(8,vI .i64 k),(7,vC (.sl 30 0 ds.length)),(6,vI .i64 i),(4,vC (.ptr 4 0)),(2,vC (.ptr 2 0))],[(30,.row 1 (x.2.map D.bool) true),(4,.box [.nl,.nl]),(2,.box [.d (Dh ds),.d (Dd a)])]⟩
def jd7(ds:List Der)(a:List Grd)(N:List Bool)(i:Nat)(g:Int->List Fct->Fct->List Grd)(k:Nat):St:=
 ⟨[(13,vI .i64 k),(12,vC (.ptr 12 0)),(11,vC (.sl 78 0 ds.length)),(7,vC (.sl 30 0 ds.length)),(6,vI .i64 i),(4,vC (.ptr 4 0)),(2,vC (.ptr 2 0))],
 (12,.box [Ph (exI N k) (H0 ds N k),TE (exG g ds N k)])::(78,.row 1 ((Sp N ds.length k).map i64) true)::(30,.row 1 (N.map D.bool) true)::(4,.box [.nl,.nl])::(2,.box [.d (Dh ds),.d (Dd a)])::O0 (exI N k) (H0 ds N k)⟩
def jfk(x:Der)(P:List Fct)(M:List Int)(ds:List Der)(e:List Grd)(N:List Bool)(i k:Nat)(a b:C)(H:List (Nat×Blk))(q:Nat×List Int):St:=
 ⟨[(17,vI .i64 q.1),(15,vC (.d (C1 P))),(14,vC (.ptr 14 0)),(13,vI .i64 k),(12,vC (.ptr 12 0)),(11,vC (.sl 78 0 ds.length)),(7,vC (.sl 30 0 ds.length)),(6,vI .i64 i),(4,vC (.ptr 4 0)),(2,vC (.ptr 2 0))],
 (14,.box (X4 x (if q.2=[] then .nl else .sl 903 0 q.2.length)))::(12,.box [a,b])::(78,.row 1 (M.map i64) true)::(30,.row 1 (N.map D.bool) true)::(4,.box [.nl,.nl])::(2,.box [.d (Dh ds),.d (Dd e)])::(H++(if q.2=[] then [] else [(903,.row 1 (q.2.map i64) true)]))⟩
def jg2(a:List Grd)(M:List Int)(ds:List Der)(b:List Grd)(N:List Bool)(i k n:Nat)(F:List Der)(E:List Grd)(q:Nat):St:=
 ⟨[(20,vI .i64 q),(18,vC (.d (Dd a))),(13,vI .i64 k),(12,vC (.ptr 12 0)),(11,vC (.sl 78 0 ds.length)),(7,vC (.sl 30 0 ds.length)),(6,vI .i64 i),(4,vC (.ptr 4 0)),(2,vC (.ptr 2 0))],
 (12,.box [.sl 149 0 F.length,TE (E++a.take q)])::(78,.row 1 (M.map i64) true)::(30,.row 1 (N.map D.bool) true)::(4,.box [.nl,.nl])::(2,.box [.d (Dh ds),.d (Dd b)])::[(149,.row 7 (F.flatMap Der.ds) true)]⟩
theorem jBb(b:List Int)(i:Nat)(v:Int)(h:i<b.length):splice i [D.int .i64 v] (b.map i64)=(b.set i v).map i64:=by
 unfold splice;rw[aD,List.set_eq_take_append_cons_drop,if_pos (by simpa using h)];simp[i64]
theorem jn0{ds:List Der}{k:Nat}(h:k<ds.length):NF ds k=ds[k].frm:=by
 unfold NF;rw[AL,Bf,AD h];rfl
theorem jBw(ds:List Der)(gs:List Grd)(f:Fct)(p:Der->Bool)(g:Int->List Fct->Fct->List Grd)(hn:ds.length<=1000)(hfr: ∀x∈ds,x.frm.length<=1000)
  (hFo: ∀x∈ds,∀ps:List Fct,ps.length<=1000->(∀f∈ps,∃y∈ds,f=y.fact)-> ∃b,CallsF prog 27 [.c (.int .i64 x.rule),.c (C1 ps),.agg x.fact.ds] (.tup [.c (.d (Dd (g x.rule ps x.fact))),.c (.d (.bool b))]))
  (hgl: ∀r ps f,(g r ps f).length<=10) (hgk: ∀r ps f,∀x∈g r ps f,x.Short/\ -1000<=x.kind/\x.kind<=1000)
  (hS: ∀x∈ds,CallsF prog 59 [.agg x.fact.ds,.agg f.ds] (.u (.c (.d (.bool (p x)))))) (i:Nat) (hi:i<ds.length) (hix:Lp p ds 0=i):
  CallsF prog 8 [.agg [Dh ds,Dd gs],.agg f.ds]
   (if R2 ds (i+1) (OR ds i)=true then jc8 15 else .tup [.agg [.d (Dh (H0 ds (Kr ds (i+1) (OR ds i)) (i+1))),.d (Dd (Nw (exG g ds (Kr ds (i+1) (OR ds i)) (i+1))))],.c (.d (.int .i64 0))]):=by
 have kI:=jpi ds gs f p O hS;rw[hix]at kI;have hkP:=λ(k:Nat) (h:k<ds.length)=>jAZ ds gs k h O (by have:=hfr _ (AZ h);omega);have hNl:=jlH ds (i+1) (OR ds i);have hcl:=jna ds (i+1) (OR ds i) (by simp[OR];omega);have l0:(OR ds i).length=ds.length:=by simp[OR]
 have s0:splice i [D.bool true] (aY ds.length (D.bool false))=(OR ds i).map D.bool:=by
  unfold OR;rw[<-jfv _ _ _ (by simpa using hi),aP]
 have hiN:(Kr ds (i+1) (OR ds i))[i]? =some true:=by
  rw[jdy ds (i+1) _ O];unfold OR;rw[aS,if_pos rfl,if_pos (by simpa using hi)]
 have P:=jkS ds (i+1) (OR ds i);obtain⟨N,hNe⟩: ∃N,N=Kr ds (i+1) (OR ds i):=⟨_,rfl⟩;obtain⟨W,hW⟩: ∃W,W=R2 ds (i+1) (OR ds i):=⟨_,rfl⟩;rw[<-hNe]at hNl hcl hiN P ⊢;rw[<-hW]at P ⊢;rw[l0]at hNl;have z0:aY ds.length (D.int .i64 0)=(Sp N ds.length 0).map i64:=by rw[jx2,aP];rfl
 obtain⟨fk,Q,fg,fa,fd⟩:=f;simp only[Fct.ds]at*;refine cO func8 rfl ?_;simp -implicitDefEqProofs[jJ,-qA,-qB,-aD]
 (first|refine Ac kI ?_|refine Ae kI ?_);simp -implicitDefEqProofs[jJ,-qA,-qB,-aD,hi,s0]
 repeat refine aG O ?_
 refine AV (jga ds gs i) (λx=>x.1<=i+1/\x.2.length=ds.length/\Kr ds x.1 x.2=N) (λx=>x.1) (i+1,OR ds i) (by simp[jga,AW,lk,St.le,vI,vC]) ⟨O1,l0,hNe.symm⟩ ?_;rintro⟨z,b⟩ ⟨h1,Z,H⟩;simp only at h1 Z H;cases z with
 |zero=>
  rw[Kr]at H;rw[H];clear h1 Z H;unfold jga;simp -implicitDefEqProofs[jJ,-qA,-qB,-aD,z0]
  repeat refine aG O ?_
  refine CE [(901,149)] (jd7 ds gs N i g) (λk=>k<=i+1/\ ∀j<k,N.getD j false=true->okX j (NF ds j)=true) (λk=>i+1 - k) 0 (by simp[jd7,Ph,O0,TE,H0,exG,exI,AW,lk,St.le,vI,vC]) ⟨O,λj v=>O⟩ ?_;rintro k ⟨S,X⟩;by_cases hk2:k<i+1
  ·have hki:k<=i:=O;have l:k<ds.length:=O;have hkN:k<N.length:=O;have J:=XA l;have gN:N[k]? =some N[k]:=AD hkN;have gd:N.getD k false=N[k]:=by rw[AL,gN];rfl
   have nF:=jl8 l hkN;have nG:=jfm g l hkN;have nI:=jbE hkN;have hFl:=jfP (ds:=ds) (N:=N) (k:=k) O O;have hIk:=jpF N k;have w:=jn0 l;have hFG:(Ph (exI N k) (H0 ds N k)= .nl/\O0 (exI N k) (H0 ds N k)=[]/\exI N k=0/\H0 ds N k=[])\/
     (Ph (exI N k) (H0 ds N k)= .sl 901 0 (H0 ds N k).length/\O0 (exI N k) (H0 ds N k)=[(901,.row 7 ((H0 ds N k).flatMap Der.ds) true)]/\exI N k≠0/\True):=by
    by_cases e:exI N k=0
    ·refine .inl ⟨?_,?_,e,jzv.1 (by rw[hFl];exact e)⟩<;>simp[Ph,O0,e]
    ·refine .inr ⟨?_,?_,e,trivial⟩<;>simp[Ph,O0,e]
   cases hNk:N[k]with
   |false=>
    rw[hNk]at gN nF nG nI gd;simp only[aR,if_false,List.append_nil,Nat.add_zero]at nF nG nI;have nM:=jvE (n:=ds.length) gd;have Y: ∀j<k+1,N.getD j false=true->okX j (NF ds j)=true:=λj v G=>by
     by_cases e:j=k
     ·subst e;rw[gd]at G;cases G
     ·exact X j O G
    unfold jd7;rcases hFG with⟨f1,f2,n0,f3⟩|⟨f1,f2,n0,f3⟩
    all_goals
     simp only[f1,f2];simp -implicitDefEqProofs[jJ,-qA,-qB,-aD,hki,gN]
     repeat refine aG O ?_
     exact⟨k+1,⟨rfl,⟨by rw[nF,nI];exact f1.symm,by rw[nG]⟩,by rw[nM],by rw[nF,nI,f2];simp[AW,lk]⟩,⟨O,Y⟩,O⟩
   |true=>
    rw[hNk]at gN nF nG nI gd;simp only[if_true]at nF nG nI;have kP:=hkP k l;obtain⟨x,hx⟩: ∃x,x=ds[k]:=⟨_,rfl⟩;have hxm:x∈ds:=by rw[hx];exact AZ l
    have hxl:=hfr x hxm;rw[<-hx]at J nF nG kP w;have hWb:okX k x.frm=false->W=true:=λe=>P.2 ⟨k,hk2,gd,by rw[w];exact e⟩;obtain⟨M,hM⟩: ∃M,M=Sp N ds.length (k+1):=⟨_,rfl⟩
    have hMl:M.length=ds.length:=by rw[hM,jdh]
    have s1:splice k [D.int .i64 (exI N k:Int)] ((Sp N ds.length k).map i64)=M.map i64:=by
     rw[jBb _ _ _ (by rw[jdh];exact l),jAY l gd,hM]
    have hnl:=jdh N ds.length k;have hMa: ∀a:Nat,a<k->N[a]? =some true->M[a]? =some (exI N a:Int):=λa h1 Z=>by
     rw[hM];exact jqm O O (getD_iff.2 Z)
    have Y:okX k x.frm=true-> ∀j<k+1,N.getD j false=true->okX j (NF ds j)=true:=λe j v G=>by
     by_cases e1:j=k
     ·subst e1;rw[w];exact e
     ·exact X j O G
    have T:okX k x.frm=true-> ∀a∈x.frm,0<=a/\a<(k:Int):=λe a K=>by
     unfold okX at e;exact of_decide_eq_true (jzy.1 e a K)
    have hcl2: ∀a∈x.frm,0<=a->a<(k:Int)->N[a.toNat]? =some true:=λa K q1 q2=>hcl k hk2 gN a (by rw[w];exact K) q1 q2;generalize okX k x.frm=ok at*;unfold jd7;rcases hFG with⟨f1,f2,n0,f3⟩|⟨f1,f2,n0,f3⟩
    all_goals
     have hFl2:=hFl
     try rw[n0]at s1
     try rw[<-hFl]at s1
     simp only[f1,f2];simp -implicitDefEqProofs[jJ,-qA,-qB,-aD,hki,gN,l]
     try rw[show((0:Nat):Int)=0 from rfl]at s1
     refine⟨by rw[jdh];omega,?_⟩
     try simp only[s1]
     refine AA (Ah [0,1,0,7,15,31,0,64,0,448,960,1984,4095,0,16383]) [.any [] [14] [⟨0,[2],[14],[14],[]⟩,⟨0,[95],[14],[14],[]⟩,⟨0,[13],[14],[14],[]⟩,⟨0,[96,97],[14],[14],[]⟩,⟨0,[98],[14],[14],[]⟩,⟨0,[99],[14],[14],[]⟩,⟨0,[2],[14],[14],[]⟩,⟨0,[101],[14],[14],[]⟩,⟨0,[13],[14],[14],[]⟩,⟨0,[102,103],[14],[14],[]⟩,⟨0,[104],[14],[14],[]⟩,⟨0,[105],[14],[14],[]⟩,⟨0,[100,106],[14],[14],[]⟩,⟨1,[],[],[],[]⟩],.one] O5 ?_;simp -implicitDefEqProofs[jJ,-qA,-qB,-aD,J,l]
     (first|refine Ac kP ?_|refine Ae kP ?_);cases ok with
     |false=>
      rw[hWb rfl];simp -implicitDefEqProofs[jJ,-qA,-qB,-aD,jc8]
     |true=>
      simp -implicitDefEqProofs[jJ,-qA,-qB,-aD];refine CE [(903,143)] (jfk x (prem ds x.frm) M ds gs N i k (Ph (exI N k) (H0 ds N k)) (TE (exG g ds N k)) (O0 (exI N k) (H0 ds N k)))
       (λq=>q.1<=x.frm.length/\q.2=(Pn N x).frm.take q.1) (λq=>x.frm.length - q.1) (0,[])
       (by simp[jfk,X4,f1,f2,AW,lk,St.le,vI,vC]) ⟨O1,rfl⟩ ?_
      rintro⟨j,L⟩ ⟨z1,o⟩;simp only at z1 o;by_cases v:j<x.frm.length
      ·unfold jfk X4;simp only[f1,f2,aW,aM];obtain⟨a,K,h0,h2',Z⟩: ∃a:Nat,x.frm[j]=(a:Int)/\a<k/\N[a]? =some true/\a<ds.length:=by
        have hin:=AZ v;obtain⟨q1,q2⟩:=T rfl _ hin;have q3:=hcl2 _ hin q1 q2;exact⟨x.frm[j].toNat,O,O,q3,O⟩
       have hMa:=hMa a h0 h2';have gj:x.frm[j]? =some (a:Int):=by rw[AD v,K]
       have n3:L++[(exI N a:Int)]=(Pn N x).frm.take (j+1):=by
        rw[Cr (by unfold Pn;rw[aI];exact v),<-o];unfold Pn;rw[aU,K,aH]
       have hLl:L.length=j:=by rw[o,A8];unfold Pn;rw[aI];omega
       by_cases l1:L=[]
       ·simp only[if_pos l1];simp -implicitDefEqProofs[jJ,-qA,-qB,-aD,v,J,l];refine AA jqf jsI O5 ?_;simp -implicitDefEqProofs[jJ,-qA,-qB,-aD,v,K,i64,Z,hMa,J,l,gj]
        repeat refine aG O ?_
        rw[l1]at n3;exact⟨j+1,[(exI N a:Int)],⟨rfl,by simp[AW,lk,i64]⟩,⟨O,n3⟩,O⟩
       ·simp only[if_neg l1];simp -implicitDefEqProofs[jJ,-qA,-qB,-aD,v,J,l];refine AA jqf jsI O5 ?_;simp -implicitDefEqProofs[jJ,-qA,-qB,-aD,v,K,i64,Z,hMa,J,l,gj]
        repeat refine aG O ?_
        exact⟨j+1,L++[(exI N a:Int)],⟨O1,by simp[AW,lk,i64]⟩,⟨O,n3⟩,O⟩
      ·have G:j=x.frm.length:=O;subst G;rw[Ba (by unfold Pn;rw[aI];omega)]at o;obtain⟨bb,kF⟩:=hFo x hxm (prem ds x.frm) (by rw[jez];exact hxl) (jrI λa K=>⟨(T rfl a K).1,by have:=(T rfl a K).2;omega⟩)
       try simp only[Fct.ds]at kF
       have hg1:=hgl x.rule (prem ds x.frm) x.fact;have hg3:=hgk x.rule (prem ds x.frm) x.fact;have hgE:=λy (hy:y∈exG g ds N k)=>jh6 hgk y hy;have hg2:=jgv hgl (ds:=ds) (N:=N) (k:=k) O O;have hd:(Pn N x).ds=[.int .i64 x.fact.kind,AT x.fact.args,.bool x.fact.neg,Ad x.fact.abs,Ad x.fact.den,.int .i64 x.rule,AT L]:=by rw[o];rfl
       generalize g x.rule (prem ds x.frm) x.fact=t at*;generalize exG g ds N k=E at*;unfold jfk X4;simp only[f1,f2,aW,aM];have kU: ∀q (hq:q<t.length),CallsF prog 28 [.c (Dd (Nw (E++t.take q))),.agg [.int .i64 t[q].kind,AT t[q].args]] (.u (.c (.d (Dd (Nw (E++t.take (q+1))))))):=λq hq=>by
        have hm: ∀y∈Nw (E++t.take q),y.Short/\ -1000<=y.kind/\y.kind<=1000:=λy hy=>by
         rcases List.mem_append.1 (jiM hy)with hy|hy
         ·exact hgE y hy
         ·exact hg3 y (List.mem_of_mem_take hy)
        have H:=hg3 _ (AZ hq);have:=jjr t[q] (Nw (E++t.take q)) H.1 (λy hy=>(hm y hy).1) (λy hy=> .inr ⟨(hm y hy).2.1,(hm y hy).2.2,H.2.1,H.2.2⟩) (by have:=jmV (E++t.take q);rw[aL,A8]at this;omega);rw[<-juy,List.append_assoc,<-Cr hq]at this;exact this
       obtain⟨F,hF⟩: ∃F,F=H0 ds N (k+1):=⟨_,rfl⟩
       have hFf:(H0 ds N k).flatMap Der.ds++(Pn N x).ds=F.flatMap Der.ds:=by rw[hF,nF,aO];simp
       have hFn:F.length=exI N k+1:=by rw[hF,nF,aL,hFl2];rfl
       have hfin:Ph (exI N (k+1)) (H0 ds N (k+1))= .sl 901 0 F.length/\O0 (exI N (k+1)) (H0 ds N (k+1))=[(901,.row 7 (F.flatMap Der.ds) true)]:=by
        rw[nI,<-hF];exact⟨by simp[Ph],by simp[O0]⟩
       rw[hd]at hFf
       try rw[f3]at hFf
       by_cases l1:L=[]
       all_goals
        (first|simp only[if_pos l1]|simp only[if_neg l1]);simp -implicitDefEqProofs[jJ,-qA,-qB,-aD,J,l]
        try refine⟨O,?_⟩
        (first|refine Ac kF ?_|refine Ae kF ?_);simp -implicitDefEqProofs[jJ,-qA,-qB,-aD]
        try rw[l1,show AT ([]:List Int)=D.slice 0 [] from rfl]at hFf
        repeat refine aG O ?_
        refine AV (jg2 t M ds gs N i k 0 F E) (λq=>q<=t.length) (λq=>t.length - q) 0
         (by simp[jg2,AW,lk,St.le,vI,vC,hFn,<-hFf,hFl2,n0]) O ?_
        rintro q hq;by_cases I:q<t.length
        ·have kU:=kU q I;have e3:=X9 I;have hE2:TE (E++t.take (q+1))= .d (Dd (Nw (E++t.take (q+1)))):=by
          unfold TE;rw[if_neg λe=>by have h:=congrArg List.length e;rw[aL,A8]at h;simp only[List.length_nil]at h;omega]
         unfold jg2;by_cases hE:E++t.take q=[]
         ·rw[hE,show Dd (Nw [])=D.slice 0 [] by rw[jop];rfl]at kU;have hE1:TE (E++t.take q)= .nl:=by unfold TE;rw[if_pos hE]
          simp only[hE1];simp -implicitDefEqProofs[jJ,-qA,-qB,-aD,I];refine AA jsx joq O5 ?_;simp -implicitDefEqProofs[jJ,-qA,-qB,-aD,I,e3]
          (first|refine Ac kU ?_|refine Ae kU ?_);simp -implicitDefEqProofs[jJ,-qA,-qB,-aD];exact⟨O,q+1,⟨rfl,by rw[hE2]⟩,O,O⟩
         ·have hE1:TE (E++t.take q)= .d (Dd (Nw (E++t.take q))):=by unfold TE;rw[if_neg hE]
          simp only[hE1];simp -implicitDefEqProofs[jJ,-qA,-qB,-aD,I];refine AA jsx joq O5 ?_;simp -implicitDefEqProofs[jJ,-qA,-qB,-aD,I,e3]
          (first|refine Ac kU ?_|refine Ae kU ?_);simp -implicitDefEqProofs[jJ,-qA,-qB,-aD];exact⟨O,q+1,⟨rfl,by rw[hE2]⟩,O,O⟩
        ·have hq3:q=t.length:=O;subst hq3;unfold jg2;rw[BM,<-nG];simp -implicitDefEqProofs[jJ,-qA,-qB,-aD,I]
         repeat refine aG O ?_
         exact⟨k+1,⟨rfl,⟨by rw[hfin.1],rfl⟩,by rw[hM],by rw[hfin.2];simp[AW,lk]⟩,⟨O,Y rfl⟩,O⟩
  ·have hk3:k=i+1:=O;subst hk3;have hWf:W=false:=by
    cases hw:W with
    |false=>rfl
    |true=>
     obtain⟨j,q1,q2,q3⟩:=P.1 hw;rw[X j q1 q2]at q3;cases q3
   have hiNl:i<N.length:=O;have nI:=jbE hiNl;rw[AD hiNl]at hiN;rw[Bi hiN,if_pos rfl]at nI;have n0:exI N (i+1)≠0:=O;have hni: ¬i+1<=i:=O;rw[hWf,if_neg O1];unfold jd7 Ph O0 TE;simp only[if_neg n0];by_cases hE:exG g ds N (i+1)=[]
   ·rw[hE,jop];simp only[if_pos];simp -implicitDefEqProofs[jJ,-qA,-qB,-aD,hni]
    try exact⟨by rw[Ba (Nat.le_of_eq (jmu _))];rfl,rfl⟩
   ·simp only[if_neg hE];simp -implicitDefEqProofs[jJ,-qA,-qB,-aD,hni]
    try (rw[Ba (Nat.le_of_eq (jmu _))];rfl)
 |succ k=>
  have S:k<ds.length:=O;have hkb:k<b.length:=O;have gk:b[k]? =some b[k]:=AD hkb;have J:=XA S;have hfl:=jn0 S;have hfk:=hfr _ (AZ S);rw[Kr,hfl]at H;have gd:b.getD k false=b[k]:=by rw[AL,gk];rfl
  rw[gd]at H;generalize ds[k].frm=Q at*;unfold jga;cases hbk:b[k]with
  |false=>
   rw[hbk]at H gk;simp only[aR,if_false]at H;simp -implicitDefEqProofs[jJ,-qA,-qB,-aD,S];refine AV (ja0 ds gs i k) (λx=>x=(0,b)) (λ_=>0) (0,b) (by simp[ja0,AW,lk,St.le,vI,vC]) rfl ?_;rintro x rfl;unfold ja0;by_cases v:0<Q.length
   ·simp -implicitDefEqProofs[jJ,-qA,-qB,-aD,S,gk,J,v];exact⟨O,k,b,⟨rfl,rfl⟩,⟨O,Z,H⟩,O⟩
   ·simp -implicitDefEqProofs[jJ,-qA,-qB,-aD,S,gk,J,v];exact⟨O,k,b,⟨rfl,rfl⟩,⟨O,Z,H⟩,O⟩
  |true=>
   rw[hbk]at H gk;simp only[if_true]at H;simp -implicitDefEqProofs[jJ,-qA,-qB,-aD,S];refine AV (ja0 ds gs i k) (λx=>x.1<=Q.length/\x.2.length=ds.length/\x.2[k]? =some true/\RS k x.2 (Q.drop x.1)=RS k b Q) (λx=>Q.length - x.1) (0,b)
    (by simp[ja0,AW,lk,St.le,vI,vC]) ⟨O1,Z,gk,by rw[aX]⟩ ?_
   rintro⟨j,c⟩ ⟨z1,z2,z5,o⟩;simp only at z1 z2 o z5;unfold ja0;by_cases v:j<Q.length
   ·have gj:Q[j]? =some Q[j]:=AD v;rw[BQ v,jdC]at o;obtain⟨a,w⟩: ∃a,Q[j]=a:=⟨_,rfl⟩
    rw[w]at o;by_cases K:0<=a/\a<(k:Int)
    ·have n1: ¬a<0:=O;have hs:=jfv c a.toNat true O;unfold Uk at o;rw[if_pos K]at o;obtain⟨m,rfl⟩: ∃m:Nat,a=m:=⟨a.toNat,O⟩
     rw[aH]at o hs;have hm:m<ds.length:=O;have n3:m<k:=O;simp -implicitDefEqProofs[jJ,-qA,-qB,-aD,S,J,v,w,i64,n3,hm,z5]
     repeat refine aG O ?_
     exact⟨j+1,c.set m true,⟨rfl,hs⟩,⟨O,by rw[List.length_set];exact z2,by rw[aS,if_neg O];exact z5,o⟩,O⟩
    ·have n1: ¬(0<=a)\/0<=a/\ ¬a<(k:Int):=O;unfold Uk at o;rw[if_neg K]at o;rcases n1 with n1|⟨n1,n2⟩
     ·simp -implicitDefEqProofs[jJ,-qA,-qB,-aD,S,J,v,w,i64,n1,z5]
      repeat refine aG O ?_
      exact⟨j+1,c,⟨rfl,rfl⟩,⟨O,z2,z5,o⟩,O⟩
     ·simp -implicitDefEqProofs[jJ,-qA,-qB,-aD,S,J,v,w,i64,n1,n2,z5]
      repeat refine aG O ?_
      exact⟨j+1,c,⟨rfl,rfl⟩,⟨O,z2,z5,o⟩,O⟩
   ·have G:j=Q.length:=O;subst G;rw[aT]at o;have o:c=RS k b Q:=o;rw[<-o]at H;simp -implicitDefEqProofs[jJ,-qA,-qB,-aD,S,J,v]
    repeat refine aG O ?_
    exact⟨k,c,⟨rfl,rfl⟩,⟨O,z2,H⟩,O⟩
theorem jvu(ds:List Der)(j:List Grd)(f:Fct)(E:ds.length<=1000)(l: ∀x∈ds,x.frm.length<=1000)(e: ∀x∈ds,x.fact.Mild/\x.fact.Short2)(w:f.Mild):
  CallsF prog 8 [.agg [Dh ds,Dd j],.agg f.ds] (jbt ds f):=by
 have r: ∀x∈ds,CallsF prog 59 [.agg x.fact.ds,.agg f.ds] (.u (.c (.d (.bool ((λx:Der=>LZ x.fact f) x))))):=λx o=>jtj x.fact f (e x o).1 w;unfold jbt;rcases jmL (λx:Der=>LZ x.fact f) ds 0 with h|⟨i,v,a⟩
 ·rw[if_pos h];have q:=jpi ds j f _ O r;rw[h]at q;obtain⟨J,K,I,G,H⟩:=f;simp only[Fct.ds]at*;refine cO func8 rfl ?_;simp -implicitDefEqProofs[jJ,-qA,-qB,-aD]
  (first|refine Ac q ?_|refine Ae q ?_);simp -implicitDefEqProofs[jJ,-qA,-qB,-aD,jc8]
 ·rw[Nat.zero_add]at a;rw[if_neg (by rw[a];omega),a,aH];exact jBw ds j f _ Te E l
    (λx o F z t=>by
     obtain⟨b,-,k⟩:=jrj x.rule F x.fact (λg m=>by obtain⟨y,p,rfl⟩:=t g m;exact(e y p).1) (λg m=>by obtain⟨y,p,rfl⟩:=t g m;exact(e y p).2) z (e x o).1;exact⟨b,k⟩)
    jm8 jsc r i v a
def smlF(f:Fct):Bool:=decide (f.args.length<=20)&&(decide (f.abs.length<=2)&&decide (f.den.length<=2))
theorem jnz(f:Fct):CallsF prog 5 [.agg f.ds] (.u (.c (.d (.bool (smlF f))))):=by
 obtain⟨r,hr⟩: ∃r,r=smlF f:=⟨_,rfl⟩
 rw[<-hr];unfold smlF at hr;obtain⟨i,args,j,b,g⟩:=f;simp only[Fct.ds]at*;refine cO func5 rfl ?_;by_cases a:args.length<=20
 ·by_cases e:b.length<=2
  ·by_cases h:g.length<=2
   ·simp -implicitDefEqProofs[jJ,-qA,-qB,a,e,h,hr]
   ·simp -implicitDefEqProofs[jJ,-qA,-qB,a,e,h,hr]
  ·simp -implicitDefEqProofs[jJ,-qA,-qB,a,e,hr]
 ·exact kA2 a hr
def jaP(x:Der):Bool:=decide (x.frm.length<=20)&&smlF x.fact
def jdZ(g:Grd):Bool:=decide (g.args.length<=20)
def W1(ds:List Der)(a:List Grd):Bool:=decide (ds.length<=12)&&(decide (a.length<=12)&&(ds.all jaP&&a.all jdZ))
theorem jyi(ds:List Der)(a:List Grd):CallsF prog 4 [.agg [Dh ds,Dd a]] (.u (.c (.d (.bool (W1 ds a))))):=by
 obtain⟨r,hr⟩: ∃r,r=W1 ds a:=⟨_,rfl⟩
 rw[<-hr];unfold W1 at hr;refine cO func4 rfl ?_;simp only[Dh,Dd]at*;by_cases w:ds.length<=12
 case neg=>
  have t:12<ds.length:=O;rw[decide_eq_false w,aJ]at hr;subst hr;simp -implicitDefEqProofs[jJ,-qA,-qB,-qF,t]
 by_cases v:a.length<=12
 case neg=>
  have t: ¬12<ds.length:=O;have z:12<a.length:=O;rw[decide_eq_false v,aJ,Bool.and_false]at hr;subst hr;simp -implicitDefEqProofs[jJ,-qA,-qB,-qF,t,z]
 have t: ¬12<ds.length:=O;have z: ¬12<a.length:=O;rw[decide_eq_true w,decide_eq_true v,aN,aN]at hr;refine rF2 t z ?_;refine AV (λi:Nat=>⟨[(3,vI .i64 i),(1,vC (.ptr 1 0))],[(1,.box [.d (.slice ds.length (ds.flatMap Der.ds)),.d (.slice a.length (a.flatMap Grd.ds))])]⟩)
  (λi=>i<=ds.length/\CB jaP ds i) (λi=>ds.length - i) 0 (by simp[AW,lk,St.le,vI,vC]) ⟨O,HJ _ _⟩ ?_
 rintro i ⟨hi,e⟩;by_cases h:i<ds.length
 ·have g:=Kp ds i h;have H:i*7+7<=ds.length*7:=O;have E:=λq=>Iu h e q;have y:=λq=>Is h (p:=jaP) q;have m:jaP ds[i]=(decide (ds[i].frm.length<=20)&&smlF ds[i].fact):=rfl;have G:=jnz ds[i].fact;clear e;generalize ds[i]=x at*;obtain⟨f,I,l⟩:=x;simp only[Fct.ds]at*;generalize smlF f=q at*;by_cases o:l.length<=20
  ·have b: ¬20<l.length:=O;cases q with
   |true=>
    simp -implicitDefEqProofs[jJ,-qA,-qB,-qF,h,g,b];refine⟨O,?_⟩;refine aF G ?_;exact⟨O,⟨O,E (by rw[m];simp[o])⟩,O⟩
   |false=>
    rw[y (by rw[m];simp),aJ]at hr;subst hr;simp -implicitDefEqProofs[jJ,-qA,-qB,-qF,h,g,b];refine⟨O,?_⟩;refine Ac G ?_;exact kF
  ·rw[y (by rw[m];simp[o]),aJ]at hr;subst hr;have b:20<l.length:=O;simp -implicitDefEqProofs[jJ,-qA,-qB,-qF,h,g,b];omega
 ·have j:i=ds.length:=O;subst j;rw[HZ e,aN]at hr;refine rF ?_;refine AV (λi:Nat=>⟨[(5,vI .i64 i),(1,vC (.ptr 1 0))],[(1,.box [.d (.slice ds.length (ds.flatMap Der.ds)),.d (.slice a.length (a.flatMap Grd.ds))])]⟩)
   (λi=>i<=a.length/\CB jdZ a i) (λi=>a.length - i) 0 (by simp[AW,lk,St.le,vI,vC]) ⟨O,HJ _ _⟩ ?_
  rintro i ⟨hi,e⟩;by_cases h:i<a.length
  ·have g:=jds a i h;have H:i*2+2<=a.length*2:=O;have E:=λq=>Iu h e q;have y:=λq=>Is h (p:=jdZ) q;have F:(a.flatMap Grd.ds)[i*2+1]? =some (AT a[i].args):=by
    have:=congrArg (λl:List D=>l[1]?) (jrs a i h);simpa [List.getElem?_take,List.getElem?_drop,Grd.ds]using this
   have m:jdZ a[i]=decide (a[i].args.length<=20):=rfl;clear e;generalize a[i]=x at*;obtain⟨k,l⟩:=x;simp only at*;by_cases o:l.length<=20
   ·have b: ¬20<l.length:=O;simp -implicitDefEqProofs[jJ,-qA,-qB,-qF,-jCE,h,F,b];exact⟨O,⟨O,E (by rw[m];simp[o])⟩,O⟩
   ·rw[y (by rw[m];simp[o])]at hr;subst hr;have b:20<l.length:=O;simp -implicitDefEqProofs[jJ,-qA,-qB,-qF,-jCE,h,F,b]
  ·have j:i=a.length:=O;subst j;rw[HZ e]at hr;subst hr;exact kF
end Go.Va
namespace Go.Va
open Go.Proofs
variable{a:List Grd}
theorem jtJ{ds:List Der}(b: ∀x∈ds,InDer x)(h:W1 ds a=true):ds.length<=12/\a.length<=12/\(∀x∈ds,x.Brief)/\ ∀g∈a,g.args.length<=20:=by
 unfold W1 at h;simp only[AR,decide_eq_true_eq,jzy]at h;obtain⟨i,j,k,l⟩:=h;refine⟨i,j,λx e=> ?_,λg m=> ?_⟩
 ·have q:=k x e;have hi:=b x e;unfold jaP smlF at q;simp only[AR,decide_eq_true_eq]at q;exact⟨⟨O,O,hi.f.oa,hi.f.od,O⟩,q.2.1,q.1,hi.r⟩
 ·have q:=l g m;unfold jdZ at q;simpa using q
theorem jAX{ds:List Der}(h:W1 ds a=true): ∀x∈ds,x.fact.abs.length<=2/\x.fact.den.length<=2/\x.fact.args.length<=20:=λx b=>by
 unfold W1 at h;simp only[AR,decide_eq_true_eq,jzy]at h;have q:=h.2.2.1 x b;unfold jaP smlF at q;simp only[AR,decide_eq_true_eq]at q;exact⟨q.2.2.1,q.2.2.2,q.2.1⟩
theorem So{α:Type}{e:α->List D}{k:Nat}(b: ∀a,(e a).length=k)(l:List α):(l.flatMap e).length=l.length*k:=Qw b l
theorem jkK(a:List Grd)(e: ∀g∈a,g.Short)(b:a.length<=1099511627776):CallsF Tryz.prog 29 [.c (Dd a),.c (Dd a)] (.u (.c (.d (.bool true)))):=by
 have:=jul a a e e b (λg f h i=> .inr (.inr rfl));rwa [decide_eq_true rfl]at this
theorem jo8{neg:Bool}{m d:Nat}(a:0<d):sg neg (m/Nat.gcd m d)=sg neg m:=by
 have b:0<Nat.gcd m d:=Nat.gcd_pos_of_pos_right m a;have h:0<m/Nat.gcd m d↔0<m:=by
  constructor
  ·intro h;have:=Nat.div_le_self m (Nat.gcd m d);omega
  ·intro h;exact Nat.div_pos (Nat.le_of_dvd h (Nat.gcd_dvd_left m d)) b
 unfold sg;simp only[h]
end Go.Va
namespace Go.Va
open _root_.Nat renaming gcd → aD, div_le_self → aG
open Go.Proofs Go.Proofs.Tryz
theorem jxx(neg:Bool)(a b:List Nat)(f:Ok a)(e:Ok b)(x:a.length<=300)(y:b.length<=300)(q:val b≠0):
  CallsF prog 127 [.agg [.bool neg,Ad a],.c (Ad b)] (.u (.agg (RB neg (val a) (val b)))):=by
 have i:=jo8 (neg:=neg) (m:=val a) (d:=val b) O;have r:0<aD (val a) (val b):=Nat.gcd_pos_of_pos_right _ O;have j:aD (val a) (val b)<=val b:=Nat.le_of_dvd O (Nat.gcd_dvd_right _ _);have w:=CM b e O;have g:=Ku a b f O e O;have v:=Bu b e;have t:=Bu a f;unfold RB;rw[<-i];generalize aD (val a) (val b)=G at*;have z:=CG j;have o:=ID a (limbs G) f O (Aw _) O (by rw[Az];omega);have p:=ID b (limbs G) e O (Aw _) O (by rw[Az];omega);have E:=CG (aG (val a) G);have l:=IS neg (limbs (val a/G)) (Aw _) O;rw[Az]at l;rw[Az]at o p;have k:limbs (val b)≠[]:=λh=>q (limbs_nil.1 h);refine oB func127 ?_;refine aB1 k w ?_;refine aB g ?_;refine aB o ?_;refine aB p ?_;refine Ac l ?_;exact kQ
theorem jAk(neg:Bool)(a b:List Nat)(g:Ok b)(i:b.length<=300)(f:val b=0):
  CallsF prog 127 [.agg [.bool neg,Ad a],.c (Ad b)] (.u (.agg [.d (.bool false),.d (.slice 0 []),.d (Ad (limbs 1))])):=by
 have e:=CM b g O;rw[f,Cm]at e;have h:=C6 1 O;refine oB func127 ?_;refine aB e ?_;refine Ac h ?_;exact kB
theorem jwC(neg:Bool)(a b:List Nat)(h:Ok a)(f:Ok b)(j:a.length<=300)(i:b.length<=300):
  ∃(s:Bool) (m e:Nat),(limbs m).length<=300/\(limbs e).length<=300/\CallsF prog 140 [.agg [.bool neg,Ad a,Ad b]] (.u (.agg [.d (.bool s),.d (Ad (limbs m)),.d (Ad (limbs e))])):=by
 by_cases g:val b=0
 ·have k:=jAk neg a b f i g;refine⟨false,0,1,by rw[Cm];simp,O2,?_⟩;refine oB func140 ?_;refine aB k ?_;rw[Cm];rfl
 ·have k:=jxx neg a b h f j i g;have l:=Bu a h;have o:=Bu b f;have p:=CG (aG (val a) (aD (val a) (val b)));have q:=CG (aG (val b) (aD (val a) (val b)));refine⟨sg neg (val a),val a/aD (val a) (val b),val b/aD (val a) (val b),O,O,?_⟩;unfold RB at k;refine oB func140 ?_;refine Ac k ?_;exact kB
theorem jwF(neg:Bool)(a b:List Nat)(j:Ok a)(l:Ok b)(o:a.length<=300)(p:b.length<=300):
  CallsF prog 124 [.agg [.bool neg,Ad a,Ad b],.agg [.bool neg,Ad a,Ad b]] (.u (.c (.d (.int .i64 0)))):=by
 obtain⟨s,m,e,r,q,g⟩:=jwC neg a b j l o p;have i:=Cp (limbs m) (limbs e) (Aw _) (Aw _);have f:=Z5 s false (limbs m) (limbs e) (Aw _) O (Aw _) O O;rw[Az,Az]at f i;have k:=jgf (sg s (m*e)) (sg s (m*e)) (limbs (m*e)) (limbs (m*e)) (Aw _) O (Aw _) O;rw[(jmP _ _).2 rfl]at k;have h:=jcD (limbs e);refine oB func124 ?_;refine AA (Ah [0,1,0,7,15,31]) [.any [] [] (Aq [[2],[5],[3]]),.one,.one,.one] O5 ?_;refine rB ?_;refine aB g ?_;refine aB g ?_;refine AA (Ah [0,1,0,4,12,31,0,64,0,256,831,2047,4095,8191]) [.any [] [] (Aq [[2],[9],[3],[11],[12],[10,13],[3],[15],[2],[17],[18]]),.one,.one,.one] O5 ?_;refine rB ?_;refine aB h ?_;refine aQ f ?_;refine aB h ?_;refine aQ f ?_;refine Ac k ?_;exact kB
end Go.Va
