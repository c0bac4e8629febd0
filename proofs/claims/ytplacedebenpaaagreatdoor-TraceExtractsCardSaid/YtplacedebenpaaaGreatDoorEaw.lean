/- a part of the proof -/
import Derived.Test.YtplacedebenpaaaGreatDoorEav
import Derived.Test.YtplacedebenpaaaGreatDoorEat
set_option linter.all false
set_option maxHeartbeats 4000000
set_option maxRecDepth 100000
namespace Go.Va
open _root_.List renaming map_set → aD, replicate → aG, singleton_append → aH, append_nil → aI, length_map → aJ, cons_append → aM, nil_append → aN, filterMap_cons → aO, flatMap_append → aP, mem_filterMap → aR, getElem_map → aS
open _root_.And renaming intro → aL
open Int renaming natCast_add → qA, natCast_mul → qB
open Go.Proofs Go.Proofs.Tryz
variable{N:List Bool}{k:Nat}{l m:List (Ky×Int)}
theorem jlh(f:Fct)(x:Der)(p:Bool)(h:CallsF prog 18 [.agg x.fact.ds,.agg f.ds] (.u (.c (.d (.bool p))))):
  CallsF prog 17 [.agg x.ds,.c (.ref f.ds)] (.u (.c (.d (.bool p)))):=by
 obtain⟨⟨k,l,q,a,b⟩,r,o⟩:=x;obtain⟨j,m,i,e,g⟩:=f;simp only[Der.ds,Fct.ds,aM,aN]at h ⊢;refine cO func17 rfl ?_;simp -implicitDefEqProofs[jJ,-qA,-qB,-aD];refine Ac h ?_;simp -implicitDefEqProofs[jJ,-qA,-qB,-aD]
@[simp]theorem Km(h:List (Nat×Blk))(l:List Der)(k:Int):sliceV h (.d (Dh l)) none (some k) 7=if 0<=k/\k<=l.length then some (.d (Dh (l.take k.toNat))) else none:=by
 unfold Dh sliceV Gb;simp only[jmu,if_true,Option.getD_none,Option.getD_some,Int.toNat_zero,Nat.sub_zero];by_cases a:0<=k/\k<=l.length
 ·rw[if_pos a,if_pos O];simp only[cut,Nat.zero_mul,List.drop_zero,jd2 Der.ds_len,A8];rw[Bs O]
 ·rw[if_neg a,if_neg O]
@[simp]theorem Kx(j:TI)(a:St)(l:List Grd):St.src j (.d (Dd l)) a=if l.length*2=l.length*j.size then some (l.length,l.flatMap Grd.ds) else none:=by
 unfold Dd St.src;simp only[Qw Grd.ds_len]
@[simp]theorem jCv(l:List Grd):D.flat (Dd l)=false:=rfl
def Ph(n:Nat)(l:List Der):C:=if n=0 then .nl else .sl 901 0 l.length
def O0(n:Nat)(l:List Der):List (Nat×Blk):=if n=0 then [] else [(901,.row 7 (l.flatMap Der.ds) true)]
def WB(n:Nat)(l:List Grd):C:=if n=0 then .nl else .sl 902 0 l.length
def WM(n:Nat)(l:List Grd):List (Nat×Blk):=if n=0 then [] else [(902,.row 2 (l.flatMap Grd.ds) true)]
theorem jpH(g:Int->List Fct->Fct->List Grd){ds:List Der}{N:List Bool}: ∀{k:Nat},k<=ds.length->k<=N.length->exI N k=0->exG g ds N k=[]
 |0,_,_,_=>rfl
 |k+1,a,b,h=>by
  rw[jbE O]at h;rw[jfm g O O,jpH g O O O];cases e:N[k]with
  |false=>rfl
  |true=>rw[e]at h;simp at h
theorem jgv{g:Int->List Fct->Fct->List Grd}(a: ∀r b f,(g r b f).length<=10){ds:List Der}{N:List Bool}: ∀{k:Nat},k<=ds.length->k<=N.length->(exG g ds N k).length<=10*k
 |0,_,_=>AO _
 |k+1,e,h=>by
  have:=jgv a (ds:=ds) (N:=N) (k:=k) O O;rw[jfm g O O,List.length_append];split
  ·have:=a ds[k].rule (prem ds ds[k].frm) ds[k].fact;omega
  ·simp only[List.length_nil];omega
theorem jh6{g:Int->List Fct->Fct->List Grd}{a:Grd->Prop}(e: ∀r i f,∀x∈g r i f,a x){ds:List Der}: ∀x∈exG g ds N k,a x:=λx b=>by
 unfold exG at b;obtain⟨p,-,h⟩:=List.mem_flatMap.1 b;split at h
 ·exact e _ _ _ x h
 ·cases h
theorem jrI{ds:List Der}{l:List Int}(h: ∀a∈l,0<=a/\a<(ds.length:Int)): ∀f∈prem ds l,∃y∈ds,f=y.fact:=λf b=>by
 unfold prem at b;obtain⟨a,g,rfl⟩:=jzk.1 b;have:=h a g;have e:a.toNat<ds.length:=O;exact⟨ds[a.toNat],AZ e,by rw[AL,Bf,AD e];rfl⟩
def Su(N:List Bool)(k:Nat):List (Ky×Int):=(List.range k).filterMap λj=>if N.getD j false=true then some (.n j,(exI N j:Int)) else none
theorem js1:Su N (k+1)=Su N k++(if N.getD k false=true then [(.n k,(exI N k:Int))] else []):=by
 unfold Su;rw[List.range_succ,List.filterMap_append];have e:[k].filterMap (λj=>if N.getD j false=true then some (Ky.n j,(exI N j:Int)) else none)=if N.getD k false=true then [(.n k,(exI N k:Int))] else []:=by
  by_cases h:N.getD k false=true
  ·rw[if_pos h,aO,if_pos h];rfl
  ·rw[if_neg h,aO,if_neg h];rfl
 rw[e]
theorem jAS(N:List Bool)(k:Nat):(Su N k).all (λe=>e.1.num==true)=true:=by
 refine jzy.2 λe a=> ?_;unfold Su at a;obtain⟨j,-,h⟩:=aR.1 a;split at h
 ·cases h;rfl
 ·cases h
theorem jfG(N:List Bool)(k:Nat): ∀(a:Ky) (b:Int),(a,b)∈Su N k->a.num=true:=λa b h=>by
 simpa using jzy.1 (jAS N k) _ h
theorem jqd{q:Ky}: ∀{i:Nat},(∀e∈l,D6 q e.1=false)->B5 q (l++m) i=B5 q m (i+l.length):=by
 induction l with
 |nil=>intro i _;rfl
 |cons e l f=>
  intro i h;obtain⟨a,v⟩:=e;rw[aM,B5,if_neg (by rw[h (a,v) O1];simp),f (λe b=>h e (by simp[b])),List.length_cons];congr 1;omega
theorem jyr{q:Ky}{p:Nat×Int}: ∀{i:Nat},B5 q l i=some p->B5 q (l++m) i=some p:=by
 induction l with
 |nil=>intro i h;cases h
 |cons e l b=>
  intro i h;obtain⟨a,v⟩:=e;rw[aM,B5];rw[B5]at h;split
  ·rename_i c;rw[if_pos c]at h;exact h
  ·rename_i c;rw[if_neg c]at h;exact b h
theorem jor: ∀e∈Su N k,∃j<k,e.1= .n (j:Nat):=λe a=>by
 unfold Su at a;obtain⟨j,b,h⟩:=aR.1 a;split at h
 ·cases h;exact⟨j,List.mem_range.1 b,rfl⟩
 ·cases h
theorem jpk(v:Int):GY (.n (k:Nat)) v (Su N k)=Su N k++[(.n k,v)]:=by
 have h:B5 (.n (k:Nat)) (Su N k) 0=none:=by
  have:=jqd (q:= .n (k:Nat)) (l:=Su N k) (m:=[]) (i:=0) λe b=>by
   obtain⟨j,f,a⟩:=jor e b;rw[a];exact beq_eq_false_iff_ne.2 O
  rw[aI]at this;rw[this];rfl
 unfold GY;rw[h]
theorem jpL{N:List Bool}{a:Nat}(b:N[a]? =some true): ∀{k:Nat},a<k-> ∃p,B5 (.n (a:Nat)) (Su N k) 0=some (p,(exI N a:Int))
 |0,h=>O
 |k+1,h=>by
  rw[js1];by_cases e:a=k
  ·subst e;rw[if_pos (getD_iff.2 b),jqd λe g=>by
    obtain⟨j,l,f⟩:=jor e g;rw[f];exact beq_eq_false_iff_ne.2 O]
   exact⟨_,by rw[B5,if_pos (by simp[D6])]⟩
  ·obtain⟨p,i⟩:=jpL b (k:=k) O;exact⟨p,jyr i⟩
def jeS(ds T:List Der)(a:List Grd)(N:List Bool)(i:Nat)(g:Int->List Fct->Fct->List Grd)(k:Nat):St:=
 ⟨[(43,vI .i64 k),(42,vI .i64 ((i+1:Nat):Int)),(41,vC (.d (Dh T))),(10,vC (.ptr 10 0)),(9,vC (.mp false 36)),(7,vC (.sl 29 0 ds.length)),(4,vC (.ptr 4 0)),(2,vC (.ptr 2 0))],
 (10,.box [Ph (exI N k) (H0 ds N k),WB (exI N k) (exG g ds N k)])::(36,.mp (.mp (Su N k)))::(29,.row 1 (N.map D.bool) true)::(4,.box [.nl,.nl])::(2,.box [.d (Dh ds),.d (Dd a)])::(O0 (exI N k) (H0 ds N k)++WM (exI N k) (exG g ds N k))⟩
def X4(x:Der)(c:C):List C:=[.d (.int .i64 x.fact.kind),.d (AT x.fact.args),.d (.bool x.fact.neg),.d (Ad x.fact.abs),.d (Ad x.fact.den),.d (.int .i64 x.rule),c]
def jg6(x:Der)(ds T:List Der)(e:List Grd)(N:List Bool)(i k:Nat)(a b:C)(H:List (Nat×Blk))(q:Nat×List Fct×List Int):St:=
 ⟨[(61,vI .i64 q.1),(60,vI .i64 x.frm.length),(59,vC (.d (AT x.frm))),(14,vC (.sl 14 0 q.2.1.length)),(13,vC (.ptr 13 0)),(12,vC (.ptr 12 0)),(11,vI .i64 k),
  (43,vI .i64 k),(42,vI .i64 ((i+1:Nat):Int)),(41,vC (.d (Dh T))),(10,vC (.ptr 10 0)),(9,vC (.mp false 36)),(7,vC (.sl 29 0 ds.length)),(4,vC (.ptr 4 0)),(2,vC (.ptr 2 0))],
 (14,.row 5 (q.2.1.flatMap Fct.ds) true)::(13,.box (X4 x (if q.2.2=[] then .nl else .sl 903 0 q.2.2.length)))::(12,.box (X4 x (.d (AT x.frm))))::(10,.box [a,b])::(36,.mp (.mp (Su N k)))::(29,.row 1 (N.map D.bool) true)
  ::(4,.box [.nl,.nl])::(2,.box [.d (Dh ds),.d (Dd e)])::(H++(if q.2.2=[] then [] else [(903,.row 1 (q.2.2.map i64) true)]))⟩
theorem jxK(ds:List Der)(gs:List Grd)(f:Fct)(p:Der->Bool)(g:Int->List Fct->Fct->List Grd)(hn:ds.length<=1000)(hfr: ∀x∈ds,x.frm.length<=1000)
  (hFo: ∀x∈ds,∀X:List Fct,X.length<=1000->(∀f∈X,∃y∈ds,f=y.fact)-> ∃b,CallsF prog 20 [.c (.int .i64 x.rule),.c (C1 X),.agg x.fact.ds] (.tup [.c (.d (Dd (g x.rule X x.fact))),.c (.d (.bool b))]))
  (hgl: ∀r X f,(g r X f).length<=10) (so co:List Grd->List Grd) (hso: ∀l,(so l).length=l.length) (Sh:Grd->Prop) (hSh: ∀r X f,∀x∈g r X f,Sh x) (hsom: ∀l x,x∈so l->x∈l)
  (hSo: ∀l:List Grd,l.length<=100000->(∀x∈l,Sh x)-> ∀i:Nat,Fw prog 21 [.c (.sl i 0 l.length),.c (.d (.fn 22 []))] [(i,.row 2 (l.flatMap Grd.ds) true)] [(i,.row 2 ((so l).flatMap Grd.ds) true)] (.tup []))
  (hCo: ∀l:List Grd,l.length<=100000->(∀x∈l,Sh x)->CallsA prog 23 2 l.length (l.flatMap Grd.ds) [.c (.fn 24 [])] (co l).length ((co l).flatMap Grd.ds))
  (hS: ∀x∈ds,CallsF prog 18 [.agg x.fact.ds,.agg f.ds] (.u (.c (.d (.bool (p x)))))) (i:Nat) (hi:i<ds.length) (hix:Lp p ds 0=i)
  (hbd:R2 ds (i+1) ((aG ds.length false).set i true)=false):
  CallsF prog 7 [.agg [Dh ds,Dd gs],.agg f.ds]
   (.tup [.agg [.d (Dh (H0 ds (Kr ds (i+1) ((aG ds.length false).set i true)) (i+1))),.d (Dd (co (so (exG g ds (Kr ds (i+1) ((aG ds.length false).set i true)) (i+1)))))],.c (.d (.int .i64 0))]):=by
 have kI:=jm4 17 (.ref f.ds) p ds O (λx v=>jlh f x _ (hS x v));have kN:=jnp ds gs i hi O (λx v=>by have:=hfr x v;omega);have hNl:=jlH ds (i+1) ((aG ds.length false).set i true);rw[hbd,if_neg O1]at kN;rw[hix]at kI;have hcl:=jna ds (i+1) ((aG ds.length false).set i true) (by simp;omega);have hgood: ∀k<i+1,(Kr ds (i+1) ((aG ds.length false).set i true)).getD k false=true->okX k (NF ds k)=true:=λk hk h=>by
  cases e:okX k (NF ds k)with
  |true=>rfl
  |false=>
   have:=(jkS ds (i+1) _).2 ⟨k,hk,h,e⟩;rw[hbd]at this;cases this
 generalize hNe:Kr ds (i+1) ((aG ds.length false).set i true)=N at*;have hNe:=hNe.symm;obtain⟨fk,fl,fg,fa,fd⟩:=f;simp only[Fct.ds]at*;refine cO func7 rfl ?_;simp -implicitDefEqProofs[jJ,-qA,-qB,-aD];refine Ac kI ?_;simp -implicitDefEqProofs[jJ,-qA,-qB,-aD];refine Ac kN ?_;simp -implicitDefEqProofs[jJ,-qA,-qB,-aD]
 repeat refine aL O ?_
 obtain⟨T,hT⟩: ∃T,T=ds.take (i+1):=⟨_,rfl⟩
 have hTl:T.length=i+1:=by rw[hT,A8];omega
 have hTk: ∀k (h:k<T.length) (h2:k<ds.length),T[k]=ds[k]:=λk h h2=>by subst hT;rw[List.getElem_take]
 rw[<-hT];have hmin:min (i+1) ds.length=i+1:=O;refine CE [(901,106),(902,95)] (jeS ds T gs N i g) (λk=>k<=i+1) (λk=>i+1 - k) 0 (by simp[jeS,Ph,WB,O0,WM,Su,exI,AW,lk,St.le,vI,vC,hmin]) O ?_;rintro k hk;by_cases hk2:k<i+1
 ·have m:k<ds.length:=O;have K:k<N.length:=by rw[hNl];simpa using m
  have e2:=XA (l:=T) (i:=k) O;rw[hTk k O m]at e2;have Z:N[k]? =some N[k]:=AD K;have m1:min 7 ((i+1 - k)*7)=7:=O;have w:=jl8 m K;have W:=jfm g m K;have S:=js1 (N:=N) (k:=k);rw[AL,Z,Option.getD_some]at S;have t:=jbE K;have I:(Ph (exI N k) (H0 ds N k)= .nl/\O0 (exI N k) (H0 ds N k)=[]/\WB (exI N k) (exG g ds N k)= .nl/\WM (exI N k) (exG g ds N k)=[]/\exI N k=0/\H0 ds N k=[]/\exG g ds N k=[])\/
    (Ph (exI N k) (H0 ds N k)= .sl 901 0 (H0 ds N k).length/\O0 (exI N k) (H0 ds N k)=[(901,.row 7 ((H0 ds N k).flatMap Der.ds) true)]/\WB (exI N k) (exG g ds N k)= .sl 902 0 (exG g ds N k).length/\WM (exI N k) (exG g ds N k)=[(902,.row 2 ((exG g ds N k).flatMap Grd.ds) true)]/\exI N k≠0/\True/\True):=by
   by_cases e:exI N k=0
   ·refine .inl ⟨?_,?_,?_,?_,e,jzv.1 (by rw[jfP O O];exact e),jpH g O O e⟩<;>simp[Ph,O0,WB,WM,e]
   ·refine .inr ⟨?_,?_,?_,?_,e,trivial,trivial⟩<;>simp[Ph,O0,WB,WM,e]
  have o:N[k]=true-> ∀a∈NF ds k,0<=a/\a<(k:Int):=λe a J=>by
   have:=hgood k O (by rw[getD_iff,Z,e]);unfold okX at this;exact of_decide_eq_true (jzy.1 this a J)
  cases hNk:N[k]with
  |false=>
   rw[hNk]at Z w W S t;simp only[Bool.false_eq_true,if_false,aI,Nat.add_zero]at w W S t;unfold jeS;rcases I with⟨z,E,G,H,n0,F,Y⟩|⟨z,E,G,H,n0,F,Y⟩
   all_goals
    simp only[z,E,G,H,aI,aH];simp -implicitDefEqProofs[jJ,-qA,-qB,-aD,hk2,e2,Z,hTl];exact⟨O,O,k+1,⟨rfl,⟨by rw[w,t];exact z.symm,by rw[W,t];exact G.symm⟩,by rw[S],by rw[w,W,t,E,H];simp[AW,lk]⟩,O,O⟩
  |true=>
   rw[hNk]at Z w W S t;simp only[if_true]at w W S t;obtain⟨x,v⟩: ∃x,x=ds[k]:=⟨_,rfl⟩;have o:=o hNk;rw[<-v]at e2 w W;unfold jeS;rcases I with⟨z,E,G,H,n0,F,Y⟩|⟨z,E,G,H,n0,F,Y⟩
   all_goals
    simp only[z,E,G,H,aI,aH];simp -implicitDefEqProofs[jJ,-qA,-qB,-aD,hk2,e2,Z,hTl];refine⟨O,?_⟩;refine CE [(14,81),(903,71)] (jg6 x ds T gs N i k (Ph (exI N k) (H0 ds N k)) (WB (exI N k) (exG g ds N k)) (O0 (exI N k) (H0 ds N k)++WM (exI N k) (exG g ds N k)))
     (λq=>q.1<=x.frm.length/\q.2.1=(prem ds x.frm).take q.1/\q.2.2=(Pn N x).frm.take q.1) (λq=>x.frm.length - q.1) (0,[],[])
     (by simp[jg6,X4,z,E,G,H,AW,lk,St.le,vI,vC]) ⟨O1,rfl,rfl⟩ ?_
    rintro⟨j,P,L⟩ ⟨z1,z2,z3⟩;simp only at z1 z2 z3;by_cases hj:j<x.frm.length
    ·unfold jg6 X4;simp only[z,E,G,H,aN,aI,aH];have gj:x.frm[j]? =some x.frm[j]:=AD hj;obtain⟨a,J,h0,h2',h2⟩: ∃a:Nat,x.frm[j]=(a:Int)/\a<k/\N[a]? =some true/\a<ds.length:=by
      have hin:x.frm[j]∈NF ds k:=by
       rw[show NF ds k=x.frm by unfold NF;rw[AL,Bf,AD m,v];rfl];exact AZ hj
      obtain⟨q1,q2⟩:=o _ hin;have q3:=hcl k O Z _ hin q1 q2;exact⟨x.frm[j].toNat,O,O,q3,O⟩
     obtain⟨pp,hfd⟩:=jpL (k:=k) h2' h0;have e3:=XA (l:=ds) (i:=a) h2;have n2:P++[ds[a].fact]=(prem ds x.frm).take (j+1):=by
      rw[Cr (by unfold prem;rw[aJ];exact hj),<-z2];unfold prem;rw[aS,J,Int.toNat_natCast,AL,Bf,AD h2];rfl
     have n3:L++[(exI N a:Int)]=(Pn N x).frm.take (j+1):=by
      rw[Cr (by unfold Pn;rw[aJ];exact hj),<-z3];unfold Pn;rw[aS,J,Int.toNat_natCast]
     have hxl:=hfr x (by rw[v];exact AZ m);have hPl:P.length<=1000:=by rw[z2,A8];omega
     have hL:(L=[]/\j=0)\/(L≠[]/\L.length=j):=by
      have:L.length=j:=by rw[z3,A8];unfold Pn;rw[aJ];omega
      by_cases e:L=[]
      ·exact .inl ⟨e,by rw[<-this,e];rfl⟩
      ·exact .inr ⟨e,this⟩
     rcases hL with⟨Q,l2⟩|⟨Q,l2⟩
     ·simp only[if_pos Q];simp -implicitDefEqProofs[jJ,-qA,-qB,-aD,hj,J,i64,C.key?,hfd,h2,e3];refine⟨jfG N k,?_⟩
      repeat refine aL O ?_
      rw[Q]at n3;refine⟨j+1,P++[ds[a].fact],[(exI N a:Int)],⟨⟨rfl,O1⟩,by rw[aP];simp[Fct.ds],rfl,by simp[AW,lk,i64]⟩,⟨O,n2,n3⟩,O⟩
     ·simp only[if_neg Q];simp -implicitDefEqProofs[jJ,-qA,-qB,-aD,hj,J,i64,C.key?,hfd,h2,e3];refine⟨jfG N k,?_⟩
      repeat refine aL O ?_
      refine⟨j+1,P++[ds[a].fact],L++[(exI N a:Int)],⟨⟨rfl,O1⟩,by rw[aP];simp[Fct.ds],O1,by simp[AW,lk,i64]⟩,⟨O,n2,n3⟩,O⟩
    ·have hj2:j=x.frm.length:=O;subst hj2;rw[Ba (by unfold prem;rw[aJ];omega)]at z2;rw[Ba (by unfold Pn;rw[aJ];omega)]at z3;have hfk:NF ds k=x.frm:=by unfold NF;rw[AL,Bf,AD m,v];rfl
     rw[hfk]at o;have hxm:x∈ds:=by rw[v];exact AZ m
     obtain⟨bb,kF⟩:=hFo x hxm P (by rw[z2];unfold prem;rw[aJ];exact hfr x hxm) (by rw[z2];exact jrI λa J=>⟨(o a J).1,by have:=(o a J).2;omega⟩)
     try simp only[Fct.ds]at kF
     have sP:D.slice P.length (List.take (P.length*5) (P.flatMap Fct.ds))=C1 P:=by
      rw[Ba (Nat.le_of_eq (Qw (k:=5) (λ_=>rfl) P))];rfl
     have hg1:=hgl x.rule P x.fact;have hg2:=jgv hgl (ds:=ds) (N:=N) (k:=k) O O;have M:exG g ds N (k+1)=exG g ds N k++g x.rule P x.fact:=by rw[W,z2]
     have hFl:=jfP (ds:=ds) (N:=N) (k:=k) O O;have hIk:=jpF N k;have hd:(Pn N x).ds=[.int .i64 x.fact.kind,AT x.fact.args,.bool x.fact.neg,Ad x.fact.abs,Ad x.fact.den,.int .i64 x.rule,AT L]:=by rw[z3];rfl
     generalize hgg:g x.rule P x.fact=gg at*;unfold jg6 X4;simp only[z,E,G,H,aN,aI,aH];by_cases Q:L=[]
     ·simp only[if_pos Q];simp -implicitDefEqProofs[jJ,-qA,-qB,-aD,sP];refine Ac kF ?_;simp -implicitDefEqProofs[jJ,-qA,-qB,-aD,C.key?,jpk]
      repeat refine aL O ?_
      refine⟨jfG N k,?_⟩
      repeat refine aL O ?_
      refine⟨k+1,⟨rfl,⟨by simp[Ph,t,w,F],by simp[WB,t,M,Y]⟩,by rw[S,<-hFl]<;>simp[F],?_⟩,O,O⟩;rw[Q,show AT ([]:List Int)=D.slice 0 [] from rfl]at hd;simp[O0,WM,t,w,M,F,Y,AW,lk,hd]
     ·simp only[if_neg Q];simp -implicitDefEqProofs[jJ,-qA,-qB,-aD,sP];refine Ac kF ?_;simp -implicitDefEqProofs[jJ,-qA,-qB,-aD,C.key?,jpk]
      repeat refine aL O ?_
      refine⟨jfG N k,?_⟩
      repeat refine aL O ?_
      refine⟨k+1,⟨rfl,⟨by simp[Ph,t,w,F],by simp[WB,t,M,Y]⟩,by rw[S,<-hFl]<;>simp[F],?_⟩,O,O⟩;simp[O0,WM,t,w,M,F,Y,AW,lk,hd]
      try rfl
 ·have hk3:k=i+1:=O;subst hk3;have I:(exI N (i+1)=0/\False)\/(exI N (i+1)≠0/\True):=by
   have hiN:i<N.length:=by rw[hNl];simpa using hi
   have:=jbE hiN;have e:N[i]? =some true:=by
    rw[hNe,jdy ds (i+1) _ O,List.getElem?_set,if_pos rfl,if_pos (by simpa using hi)]
   rw[AD hiN]at e;rw[Bi e,if_pos rfl]at this;exact .inr ⟨O,trivial⟩
  rcases I with⟨_,h⟩|⟨n0,_⟩
  ·exact h.elim
  unfold jeS Ph O0 WB WM;simp only[if_neg n0,aH];have hg2:=jgv hgl (ds:=ds) (N:=N) (k:=i+1) O (by rw[hNl];simp;omega);have q1:=hSo (exG g ds N (i+1)) O (jh6 hSh);have q2:=hCo (so (exG g ds N (i+1))) (by rw[hso];omega) (λx v=>jh6 hSh x (hsom _ x v));rw[hso]at q2;simp -implicitDefEqProofs[jJ,-qA,-qB,-aD];refine .inr (.inl (Hn (q1 902) (by simp[DB,U.all,C.id?]) (by simp[lk]) ?_));simp -implicitDefEqProofs[jJ,-qA,-qB,-aD,St.backW];refine .inr (.inr (.inr (.inr (.inr ⟨rfl,902,(exG g ds N (i+1)).length,2,_,_,(so (exG g ds N (i+1))).flatMap Grd.ds,_,_,[_],rfl,by simp[lk],rfl,rfl,q2,?_⟩))));simp -implicitDefEqProofs[jJ,-qA,-qB,-aD,St.drop];exact⟨by rw[Ba (Nat.le_of_eq (jmu _))];rfl,by rw[Ba (Nat.le_of_eq (Qw Grd.ds_len _))];rfl⟩
theorem jyP(ds:List Der)(e:List Grd)(f:Fct)(p:Der->Bool)(o:ds.length<=1000)
  (g: ∀x∈ds,CallsF prog 18 [.agg x.fact.ds,.agg f.ds] (.u (.c (.d (.bool (p x)))))) (a:Lp p ds 0= -1):
  CallsF prog 7 [.agg [Dh ds,Dd e],.agg f.ds] (.tup [.agg [.d (.slice 0 []),.d (.slice 0 [])],.c (.d (.int .i64 13))]):=by
 have b:=jm4 17 (.ref f.ds) p ds O (λx h=>jlh f x _ (g x h));rw[a]at b;obtain⟨l,m,k,i,j⟩:=f;simp only[Fct.ds]at*;refine cO func7 rfl ?_;simp -implicitDefEqProofs[jJ,-qA,-qB,-aD];refine Ac b ?_;simp -implicitDefEqProofs[jJ,-qA,-qB,-aD]
theorem jt6(ds:List Der)(h:List Grd)(f:Fct)(p:Der->Bool)(v:ds.length<=1000)(b: ∀x∈ds,x.frm.length<=1000)
  (l: ∀x∈ds,CallsF prog 18 [.agg x.fact.ds,.agg f.ds] (.u (.c (.d (.bool (p x)))))) (i:Nat) (hi:i<ds.length) (e:Lp p ds 0=i)
  (a:R2 ds (i+1) ((aG ds.length false).set i true)=true):
  CallsF prog 7 [.agg [Dh ds,Dd h],.agg f.ds] (.tup [.agg [.d (.slice 0 []),.d (.slice 0 [])],.c (.d (.int .i64 15))]):=by
 have j:=jm4 17 (.ref f.ds) p ds O (λx g=>jlh f x _ (l x g));have k:=jnp ds h i hi O (λx g=>by have:=b x g;omega);rw[a,if_pos rfl]at k;rw[e]at j;obtain⟨r,t,q,m,o⟩:=f;simp only[Fct.ds]at*;refine cO func7 rfl ?_;simp -implicitDefEqProofs[jJ,-qA,-qB,-aD];refine Ac j ?_;simp -implicitDefEqProofs[jJ,-qA,-qB,-aD];refine Ac k ?_;simp -implicitDefEqProofs[jJ,-qA,-qB,-aD]
def Eb(f:Fct):Bool:=decide (A6 f 40=0)
theorem je9(f:Fct)(a:f.Mild):CallsF prog 50 [.agg f.ds] (.u (.c (.d (.bool (Eb f))))):=by
 refine cO func50 rfl ?_;have k:=jAa f a 40;simp only[Fct.ds]at k ⊢;refine rA ?_;refine Ac k ?_;simp -implicitDefEqProofs[jJ,-qA,-qB,Eb]
theorem XP(f:Fct)(a:f.Mild):CallsF prog 68 [.agg f.ds] (.u (.c (.d (.bool (Eb f))))):=by
 refine cO func68 rfl ?_;have k:=jBl f a 40;simp only[Fct.ds]at k ⊢;refine rA ?_;refine Ac k ?_;simp -implicitDefEqProofs[jJ,-qA,-qB,Eb]
theorem jeK(e a b c d:Int)(neg:Bool)(f g:List Nat):CallsF prog 177 [.agg [.int .i64 e,AT [a,b,c,d],.bool neg,Ad f,Ad g]] (.u (.c (.own 2 2 [.int .i64 (lo a b),.int .i64 (hi a b),.int .i64 (lo c d),.int .i64 (hi c d)]))):=
 jsp ⟨e,[a,b,c,d],neg,f,g⟩ O1
theorem jrn(i a b c d e f g h:Int)(neg:Bool)(j k:List Nat):CallsF prog 177 [.agg [.int .i64 i,AT [a,b,c,d,e,f,g,h],.bool neg,Ad j,Ad k]] (.u (.c (.own 2 4 [.int .i64 (lo a b),.int .i64 (hi a b),.int .i64 (lo c d),.int .i64 (hi c d),.int .i64 (lo e f),.int .i64 (hi e f),.int .i64 (lo g h),.int .i64 (hi g h)]))):=
 jsp ⟨i,[a,b,c,d,e,f,g,h],neg,j,k⟩ O1
def Fct.res(f:Fct):R:= .u (.agg [.d (.int .i64 f.kind),.d (AT f.args),.d (.bool f.neg),.d (Ad f.abs),.d (Ad f.den)])
theorem jdp(e a b c d:Int)(neg:Bool)(f g:List Nat):CallsF prog 261 [.c (.int .i64 e),.agg [.bool neg,Ad f,Ad g],.c (.slice 2 [.int .i64 a,.int .i64 b,.int .i64 c,.int .i64 d])]
  (.u (.agg [.d (.int .i64 e),.d (AT [a,b,c,d]),.d (.bool neg),.d (Ad f),.d (Ad g)])):=
 jpu e neg f g [(a,b),(c,d)] O1
theorem jp7(i a b c d e f g h:Int)(neg:Bool)(j k:List Nat):CallsF prog 261 [.c (.int .i64 i),.agg [.bool neg,Ad j,Ad k],.c (.slice 4 [.int .i64 a,.int .i64 b,.int .i64 c,.int .i64 d,.int .i64 e,.int .i64 f,.int .i64 g,.int .i64 h])]
  (.u (.agg [.d (.int .i64 i),.d (AT [a,b,c,d,e,f,g,h]),.d (.bool neg),.d (Ad j),.d (Ad k)])):=
 jpu i neg j k [(a,b),(c,d),(e,f),(g,h)] O1
def MK(a:Int)(p q:Int×Int):Fct:=if Dg q p<0 then ⟨a,[q.1,q.2,p.1,p.2],false,[],[]⟩ else ⟨a,[p.1,p.2,q.1,q.2],false,[],[]⟩
theorem jjv(e a b c d:Int)(neg:Bool)(f g:List Nat):CallsF prog 167 [.agg [.int .i64 e,AT [a,b,c,d],.bool neg,Ad f,Ad g]] (MK e (AQ a b) (AQ c d)).res:=by
 refine cO func167 rfl ?_;have i:=jeK e a b c d neg f g;have j:=ja4 (lo c d) (hi c d) (lo a b) (hi a b);have k:=jdp e (lo c d) (hi c d) (lo a b) (hi a b) false [] [];have m:=jdp e (lo a b) (hi a b) (lo c d) (hi c d) false [] [];unfold MK AQ;simp only;generalize AT [a,b,c,d]=l at*;generalize lo c d=x at*;generalize hi c d=y at*;generalize lo a b=z at*;generalize hi a b=t at*;refine rA ?_;refine aA i ?_;refine AA (Ah [0,1,3,0,8,24,63,127]) [.any [] [] (Aq [[3],[6],[7],[3],[9],[10]]),.one,.one] O5 ?_;refine rA ?_;refine Ac j ?_;by_cases h:Dg (x,y) (z,t)<0
 ·refine rA1 h ?_;refine AA (Ah [0,0,0,4,12,0,32,96,253,509,1023,2047]) [.any [] [] [⟨0,[3],[],[],[]⟩,⟨0,[3],[5],[],[]⟩,⟨0,[3],[],[],[]⟩,⟨0,[16],[],[],[]⟩,⟨0,[17],[],[],[]⟩,⟨0,[3],[],[],[]⟩,⟨0,[19],[],[],[]⟩,⟨0,[20],[],[],[]⟩,⟨0,[14],[],[],[]⟩,⟨2,[18,22],[],[],[5]⟩],.one,.one] O5 ?_;refine rA ?_;refine Ac k ?_;exact kH
 ·refine rA1 h ?_;refine Ac m ?_;exact kH
end Go.Va
namespace Go.Va
def ZJ(a b:Fct):Int:=Nk (LG a.neg (val a.abs)*val b.den) (LG b.neg (val b.abs)*val a.den)
def cmpK(a b:Fct):Int:=It [Nk a.kind b.kind,D1 a.args b.args]
def C2(a b:Fct):Int:=if cmpK a b≠0\/a.kind≠9 then cmpK a b else ZJ a b
def Fct.Num(f:Fct):Prop:=f.kind=9->val f.den≠0
theorem S3(a b:Int):(a<b/\Nk a b= -1)\/(b<a/\Nk a b=1)\/(a=b/\Nk a b=0):=by
 unfold Nk;omega
structure IsCmp {α:Type} (P:α->Prop) (c:α->α->Int):Prop where
 rng: ∀x y,P x->P y-> -1<=c x y/\c x y<=1
 anti: ∀x y,P x->P y->c y x= -c x y
 tr: ∀x y z,P x->P y->P z->c x y<=0->c y z<=0->c x z<=0/\(c x z=0->c x y=0/\c y z=0)
theorem isCmp_Z:IsCmp (λ_=>True) Nk where
 rng x y _ _:=by rcases S3 x y with⟨_,h⟩|⟨_,h⟩|⟨_,h⟩<;>omega
 anti x y _ _:=by rcases S3 x y with⟨_,h⟩|⟨_,h⟩|⟨_,h⟩<;>rcases S3 y x with⟨_,a⟩|⟨_,a⟩|⟨_,a⟩<;>omega
 tr x y z _ _ _:=by
  rcases S3 x y with⟨_,h⟩|⟨_,h⟩|⟨_,h⟩<;>rcases S3 y z with⟨_,a⟩|⟨_,a⟩|⟨_,a⟩<;>rcases S3 x z with⟨_,b⟩|⟨_,b⟩|⟨_,b⟩<;>omega
theorem IsCmp.lex{α:Type}{P:α->Prop}{c d:α->α->Int}(a:IsCmp P c)
  (rng: ∀x y,P x->P y->c x y=0-> -1<=d x y/\d x y<=1) (anti: ∀x y,P x->P y->c x y=0->d y x= -d x y)
  (tr: ∀x y z,P x->P y->P z->c x y=0->c y z=0->d x y<=0->d y z<=0->d x z<=0/\(d x z=0->d x y=0/\d y z=0)):
  IsCmp P λx y=>if c x y≠0 then c x y else d x y where
 rng x y hx hy:=by
  by_cases h:c x y=0
  ·grind
  ·simp only[h,ne_eq,not_false_eq_true,if_true];exact a.rng x y hx hy
 anti x y hx hy:=by
  have b:=a.anti x y hx hy;grind
 tr x y z hx hy hz:=by
  have t:=a.tr x y z hx hy hz;grind
theorem isCmp_lexI:IsCmp (λ_=>True) D1 where
 rng:=by
  intro x
  induction x with
  |nil=>intro y _ _;cases y<;>simp[D1]
  |cons a x e=>
   intro y _ _;cases y with
   |nil=>simp[D1]
   |cons b y=>
    have h:=isCmp_Z.rng a b trivial trivial;have f:=e y trivial trivial;grind[D1]
 anti:=by
  intro x
  induction x with
  |nil=>intro y _ _;cases y<;>simp[D1]
  |cons a x e=>
   intro y _ _;cases y with
   |nil=>simp[D1]
   |cons b y=>
    have h:=isCmp_Z.anti a b trivial trivial;have f:=e y trivial trivial;grind[D1]
 tr:=by
  intro x
  induction x with
  |nil=>intro y z _ _ _;cases y<;>cases z<;>simp[D1]
  |cons a x e=>
   intro y z _ _ _;cases y with
   |nil=>grind[D1]
   |cons b y=>
    cases z with
    |nil=>simp[D1]
    |cons c z=>
     have f:=e y z trivial trivial trivial;have t:=isCmp_Z.tr a b c trivial trivial trivial;have q:=isCmp_Z.tr c b a trivial trivial trivial;have m:=isCmp_Z.anti a b trivial trivial;have o:=isCmp_Z.anti b c trivial trivial;have p:=isCmp_Z.anti a c trivial trivial;simp only[D1];by_cases g:Nk a b=0<;>by_cases j:Nk b c=0<;>by_cases i:Nk a c=0<;>simp only[g,j,i,if_false,if_true]<;>intro k l
     ·exact f k l
     all_goals first
      |(have:=t O O;exact⟨O,λh=>by first|exact h.elim|omega⟩)
      |exact⟨O,λh=>by first|exact h.elim|omega⟩
theorem jmC: ∀(x y:List Int),D1 x y=0↔x=y
 |[],[]=>by simp[D1]
 |[],_::_=>by simp[D1]
 |_::_,[]=>by simp[D1]
 |a::x,b::y=>by
  have:=jmC x y;grind[jmP,D1,absurd]
theorem jmS(a b:Fct):cmpK a b=if Nk a.kind b.kind≠0 then Nk a.kind b.kind else D1 a.args b.args:=by
 grind[cmpK,It,Nk,D1]
theorem isCmp_K:IsCmp (λ_:Fct=>True) cmpK:=by
 have f:IsCmp (λ_:Fct=>True) λa b=>Nk a.kind b.kind:=⟨λx y _ _=>isCmp_Z.rng _ _ trivial trivial,λx y _ _=>isCmp_Z.anti _ _ trivial trivial,λx y z _ _ _=>isCmp_Z.tr _ _ _ trivial trivial trivial⟩
 have h:=f.lex (d:=λa b=>D1 a.args b.args) (λx y _ _ _=>isCmp_lexI.rng _ _ trivial trivial) (λx y _ _ _=>isCmp_lexI.anti _ _ trivial trivial) (λx y z _ _ _ _ _=>isCmp_lexI.tr _ _ _ trivial trivial trivial);have e:cmpK=λa b=>if Nk a.kind b.kind≠0 then Nk a.kind b.kind else D1 a.args b.args:=by funext a b;exact jmS a b
 rw[e];exact h
theorem cmpK_zero{a b:Fct}:cmpK a b=0↔a.kind=b.kind/\a.args=b.args:=by
 rw[jmS];have e:=jmP a.kind b.kind;have f:=jmC a.args b.args;grind
theorem jmp(a b:Fct):C2 a b=if cmpK a b≠0 then cmpK a b else if a.kind=9 then ZJ a b else 0:=by
 grind[C2,cmpK]
theorem jB1{a b d:Int}(e:0<d)(h:a*d<=b*d):a<=b:=(by simp_all)
theorem jAx{x1 x2 x3 d1 d2 d3:Int}(i:0<d1)(b:0<d2)(j:0<d3)(k:x1*d2<=x2*d1)(l:x2*d3<=x3*d2):x1*d3<=x3*d1/\(x1*d3=x3*d1->x1*d2=x2*d1/\x2*d3=x3*d2):=by
 have f:x1*d2*d3<=x2*d1*d3:=(by simp_all)
 have g:x2*d3*d1<=x3*d2*d1:=(by simp_all)
 have m:x2*d1*d3=x2*d3*d1:=O3;have o:x1*d2*d3=x1*d3*d2:=O3;have e:x3*d2*d1=x3*d1*d2:=O3;refine⟨jB1 b O,λh=> ?_⟩;rw[<-h]at e;refine⟨Int.eq_of_mul_eq_mul_right (a:=d3) O O,Int.eq_of_mul_eq_mul_right (a:=d1) O O⟩
theorem isCmp_F:IsCmp Fct.Num C2:=by
 have v:IsCmp Fct.Num cmpK:=⟨λx y _ _=>isCmp_K.rng _ _ trivial trivial,λx y _ _=>isCmp_K.anti _ _ trivial trivial,λx y z _ _ _=>isCmp_K.tr _ _ _ trivial trivial trivial⟩
 have h:=v.lex (d:=λa b=>if a.kind=9 then ZJ a b else 0) (λx y _ _ _=>by
   by_cases h:x.kind=9
   ·simp only[h,if_true];exact isCmp_Z.rng _ _ trivial trivial
   ·simp[h]) (λx y j k i=>by
   have e:=(cmpK_zero.1 i).1;by_cases h:x.kind=9
   ·have f:y.kind=9:=O;simp only[h,f,if_true];exact isCmp_Z.anti _ _ trivial trivial
   omega) (λx y z j k w i t=>by
   have e:=(cmpK_zero.1 i).1;have E:=(cmpK_zero.1 t).1;by_cases h:x.kind=9
   ·have f:y.kind=9:=O;have g:z.kind=9:=O;have H:=j h;have I:=k f;have J:=w g;simp only[h,f,if_true,ZJ];rcases S3 (LG x.neg (val x.abs)*val y.den) (LG y.neg (val y.abs)*val x.den)with⟨l,m⟩|⟨l,m⟩|⟨l,m⟩<;>
    rcases S3 (LG y.neg (val y.abs)*val z.den) (LG z.neg (val z.abs)*val y.den)with⟨o,p⟩|⟨o,p⟩|⟨o,p⟩<;>intro F G<;>try omega
    all_goals
     have c:=jAx (x1:=LG x.neg (val x.abs)) (x2:=LG y.neg (val y.abs)) (x3:=LG z.neg (val z.abs)) (d1:=val x.den) (d2:=val y.den) (d3:=val z.den) O O O O O;rcases S3 (LG x.neg (val x.abs)*val z.den) (LG z.neg (val z.abs)*val x.den)with⟨q,r⟩|⟨q,r⟩|⟨q,r⟩<;>omega
   omega)
 have e:C2=λa b=>if cmpK a b≠0 then cmpK a b else if a.kind=9 then ZJ a b else 0:=by funext a b;exact jmp a b
 rw[e];exact h
theorem IsCmp.self{α:Type}{P:α->Prop}{c:α->α->Int}(h:IsCmp P c){x:α}(a:P x):c x x=0:=by
 have:=h.anti x x a a;omega
end Go.Va
