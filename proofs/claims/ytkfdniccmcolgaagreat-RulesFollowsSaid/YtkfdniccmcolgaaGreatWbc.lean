/- a part of the proof -/
import Derived.Test.YtkfdniccmcolgaaGreatWbb
import Derived.Test.YtkfdniccmcolgaaGreatWaw
set_option linter.all false
set_option maxHeartbeats 4000000
set_option maxRecDepth 100000
namespace Go.Va
open Int (natCast_add natCast_mul natCast_emod natCast_ediv natCast_pow)
open Go.Proofs
def factsL(L:List Fnd):List Fct:=L.map Fnd.fact
def Bq(L:List Fnd):List Grd:=L.flatMap Fnd.grds
theorem K8{L:List Fnd}(h:FndOk L):(Bq L).length≤L.length*10:=E3 fun x hx=>(h.sh x hx).1
theorem Qj{L:List Fnd}(h:FndOk L): ∀g∈Bq L,g.Short:=fun g hg=>by
 obtain⟨x,hx,hg⟩:=List.mem_flatMap.1 hg
 exact(h.sh x hx).2 g hg
@[simp]theorem YN(l:List Grd):(l.flatMap Grd.ds).take (l.length*2)=l.flatMap Grd.ds:=AI (by rw[H5];omega)
@[simp]theorem jir(l:List Grd):D.slice l.length (l.flatMap Grd.ds)=grdsD l:=rfl
@[simp]theorem src_grds(j:TI)(st:St)(l:List Grd):St.src j (.d (grdsD l)) st=if l.length*2=l.length*j.size then some (l.length,l.flatMap Grd.ds) else none:=by
 unfold grdsD St.src;simp only[H5]
theorem FndOk.sub{L M:List Fnd}(h:FndOk L)(hs:M.Sublist L):FndOk M:=⟨fun x hx=>h.rt x (hs.subset hx),fun x hx=>h.sh x (hs.subset hx),h.nd.sublist hs⟩
theorem Sn(n:Int)(ps:List Fct)(L:List Fnd)(hL:FndOk L)(hln:L.length≤100000000000)(hF:CallsF Tryz.prog 29 [.c (.int .i64 n),.c (fctsD ps)] (.u (.c (.d (BQ L))))):
  CallsF Tryz.prog 10 [.c (.int .i64 n),.c (fctsD ps)] (.tup [.c (.d (fctsD (factsL L))),.c (.d (grdsD (BV (Bq L))))]):=by
 refine Ae (T:=tb) Ad mixed Tryz.func10 rfl (by decide) (Ac rfl) rfl ?_;unfold St.init
 simp -implicitDefEqProofs[jJ,-natCast_add,-natCast_mul,-List.reduceReplicate];refine Aa hF ?_;simp -implicitDefEqProofs[jJ,-natCast_add,-natCast_mul,-List.reduceReplicate];refine BA [(4,20),(5,24)] (fun i:Nat=>⟨[(12,vI .i64 i),(11,vI .i64 L.length),(10,vC (.d (BQ L))),(4,vC (.sl 4 0 i)),(5,vC (.sl 5 0 (Bq (L.take i)).length))],
  [(4,.row 5 ((factsL (L.take i)).flatMap Fct.ds) true),(5,.row 2 ((Bq (L.take i)).flatMap Grd.ds) true)]⟩) (fun i=>i≤L.length) (fun i=>L.length - i) 0 (by simp[An,lk,St.le,vI,vC,factsL,Bq]) (by omega) ?_
 rintro i hi
 by_cases h:i<L.length
 ·have e2:=IU h;have hsub:=K8 (hL.sub (List.take_sublist (i+1) L));rw[AG]at hsub;have e3:Bq (L.take (i+1))=Bq (L.take i)++L[i].grds:=by
   unfold Bq;rw[AQ h,List.flatMap_append];simp
  have e4:factsL (L.take (i+1))=factsL (L.take i)++[L[i].fact]:=by
   unfold factsL;rw[AQ h,List.map_append];rfl
  have e5:(factsL (L.take i)).length=i:=by simp[factsL];omega
  rw[e3,List.length_append]at hsub
  simp -implicitDefEqProofs[jJ,-natCast_add,-natCast_mul,-List.reduceReplicate,h,e2,e5];refine⟨by omega,by omega,by omega,i+1,?_,by omega,by omega⟩
  simp -implicitDefEqProofs[jJ,-natCast_add,-natCast_mul,-List.reduceReplicate,An,lk,e3,e4]
 ·have hi2:i=L.length:=by omega
  subst hi2;rw[AZ];have hl1:=K8 hL;have q:=Qf (Bq L) (by omega) (Qj hL)
  simp -implicitDefEqProofs[jJ,-natCast_add,-natCast_mul,-List.reduceReplicate,h];refine .inr (.inr (.inr (.inr (.inr ⟨rfl,5,(Bq L).length,2,_,_,(Bq L).flatMap Grd.ds,_,_,[],rfl,by simp[lk],rfl,rfl,q,?_⟩))))
  simp -implicitDefEqProofs[jJ,-natCast_add,-natCast_mul,-List.reduceReplicate,St.drop];have e:(factsL L).length=L.length:=by simp[factsL]
  rw[←e,M6]
  exact⟨AA _,rfl⟩
def Ej(L:List Fnd)(F:Fct):List Grd×Bool:=match L.find? (fun x=>decide (Aw x.fact F=0))with|some x=>(x.grds,true)|none=>([],false)
theorem VK(n:Int)(ps:List Fct)(f:Fct)(hf:f.Mild)(L:List Fnd)(hL:FndOk L)(hln:L.length≤100000000000)(hF:CallsF Tryz.prog 29 [.c (.int .i64 n),.c (fctsD ps)] (.u (.c (.d (BQ L))))):
  CallsF Tryz.prog 14 [.c (.int .i64 n),.c (fctsD ps),.agg f.ds] (.tup (if (normF f).kind=0 then [.c (.d (.slice 0 [])),.c (.d (.bool false))] else [.c (.d (grdsD (Ej L (normF f)).1)),.c (.d (.bool (Ej L (normF f)).2))])):=by
 have k1:=LL f hf;have hrt:=Ca (f:=f) hf;simp only[Fct.ds]at k1;generalize normF f=F at*;refine Ae (T:=tb) Ad mixed Tryz.func14 rfl (by decide) (Ac rfl) rfl ?_;unfold St.init
 simp -implicitDefEqProofs[jJ,-natCast_add,-natCast_mul,-List.reduceReplicate];refine Aa k1 ?_;simp -implicitDefEqProofs[jJ,-natCast_add,-natCast_mul,-List.reduceReplicate,Fct.res];refine⟨fun hk=> ?_,fun hk=> ?_⟩
 ·rw[if_pos hk]
  simp -implicitDefEqProofs[jJ,-natCast_add,-natCast_mul,-List.reduceReplicate]
 ·have hrt:=hrt hk;rw[if_neg hk];refine Aa hF ?_;simp -implicitDefEqProofs[jJ,-natCast_add,-natCast_mul,-List.reduceReplicate];refine Av (fun i:Nat=>⟨[(20,vI .i64 i),(19,vI .i64 L.length),(18,vC (.d (BQ L))),(8,vC (.ptr 8 0))],[(8,.box [.d (.int .i64 F.kind),.d (intsD F.args),.d (.bool F.neg),.d (Ab F.abs),.d (Ab F.den)])]⟩)
   (fun i=>i≤L.length∧Ej (L.drop i) F=Ej L F) (fun i=>L.length - i) 0 (by simp[An,lk,St.le,vI,vC]) ⟨by omega,rfl⟩ ?_
  rintro i ⟨hi,hg⟩
  by_cases h:i<L.length
  ·have e2:=IU h;have hx:=hL.rt L[i] (Ak h);have k2:=MD L[i].fact F hx.mild hrt.mild hx.num hrt.num;have e:Ej (L.drop i) F=if Aw L[i].fact F=0 then (L[i].grds,true) else Ej (L.drop (i+1)) F:=by
    unfold Ej;rw[AD h,List.find?_cons];by_cases h0:Aw L[i].fact F=0<;>simp[h0]
   simp only[Fct.ds]at k2;rw[e]at hg;by_cases h0:Aw L[i].fact F=0
   ·rw[if_pos h0]at hg
    rw[←hg]
    simp -implicitDefEqProofs[jJ,-natCast_add,-natCast_mul,-List.reduceReplicate,h,e2];refine Aa k2 ?_;simp -implicitDefEqProofs[jJ,-natCast_add,-natCast_mul,-List.reduceReplicate,h0]
   ·rw[if_neg h0]at hg
    simp -implicitDefEqProofs[jJ,-natCast_add,-natCast_mul,-List.reduceReplicate,h,e2];refine Aa k2 ?_;simp -implicitDefEqProofs[jJ,-natCast_add,-natCast_mul,-List.reduceReplicate,h0];exact⟨by omega,⟨by omega,hg⟩,by omega⟩
  ·have hi2:i=L.length:=by omega
   subst hi2;have e:Ej L F=([],false):=by rw[←hg,List.drop_length];rfl
   rw[e]
   simp -implicitDefEqProofs[jJ,-natCast_add,-natCast_mul,-List.reduceReplicate,h];rfl
theorem jay:CallsF Tryz.prog 20 [] (.u (.c (.d (.int .i64 28)))):=by
 refine Ae (T:=tb) Ad mixed Tryz.func20 rfl (by decide) (Ac rfl) rfl ?_;unfold St.init
 simp -implicitDefEqProofs[jJ,-natCast_add,-natCast_mul,-List.reduceReplicate]
end Go.Va
namespace Go.Va
open Go.Proofs
def Ed(a:Int):List Int→List Int
 |[]=>[a]
 |b::l=>if a≤b then a::b::l else b::Ed a l
def Hp:List Int→List Int
 |[]=>[]
 |a::l=>Ed a (Hp l)
theorem NM(a:Int): ∀l,(Ed a l).Perm (a::l)
 |[]=>List.Perm.refl _
 |b::l=>by
  unfold Ed;split
  ·exact List.Perm.refl _
  ·exact((NM a l).cons b).trans (List.Perm.swap a b l)
theorem Ln: ∀l,(Hp l).Perm l
 |[]=>List.Perm.refl _
 |a::l=>(NM a _).trans ((Ln l).cons a)
theorem Rs(a:Int): ∀l:List Int,l.Pairwise (· ≤ ·)→(Ed a l).Pairwise (· ≤ ·)
 |[],_=>by simp[Ed]
 |b::l,h=>by
  rw[List.pairwise_cons]at h
  unfold Ed;split
  ·rename_i hab
   rw[List.pairwise_cons,List.pairwise_cons]
   refine⟨fun x hx=> ?_,h.1,h.2⟩
   rcases jzn.1 hx with rfl|hx
   ·exact hab
   ·have:=h.1 x hx;omega
  ·rename_i hab
   rw[List.pairwise_cons]
   refine⟨fun x hx=> ?_,Rs a l h.2⟩
   rcases jzn.1 ((NM a l).mem_iff.1 hx)with rfl|hx
   ·omega
   ·exact h.1 x hx
theorem M5: ∀l:List Int,(Hp l).Pairwise (· ≤ ·)
 |[]=> .nil
 |a::l=>Rs a _ (M5 l)
theorem Hy(l:List Int):BE l=Hp l:=(Mj (Ln l) (M5 l)).symm
def Lp(b:Bnd)(p:Pat):List Int:=Hp (Bi b p.letters)
def SL(b:Bnd)(ps:List Pat):List Grd:=if ps.any (fun p=>BO (Lp b p)) then [] else BV (ps.map fun p=>⟨p.kind,Lp b p⟩)
def Nw(r:Rul)(b:Bnd):List AR:=if !r.guards.any (fun p=>BO (Lp b p)) then r.concl.map fun p=>(D9 b p,SL b r.guards) else []
theorem jhG(r:Rul):Cj r=Nw r:=by
 funext b
 have e:Bc b=Lp b:=funext fun p=>Hy _
 unfold Cj Nw Gv guardsL SL GQ;rw[e]
theorem VV(r:Rul)(nl:List Fct):Gn r nl=CU DH (runF nl [] (DY (Nw r) (Co r nl) nl.length 0 Bnd.zero)):=by
 unfold Gn saysP;rw[jhG]
end Go.Va
namespace Go.Va
open Int (natCast_add natCast_mul natCast_emod natCast_ediv natCast_pow)
open Go.Proofs
def SU:List (List Nat):=(Aj [0,1,0,7,15,0,32,0,224,480,1023])
@[simp]def UQ:List Seg:=[.any [] [] (Ao [[2],[30],[5],[31,32],[33],[3],[35],[5],[36,37],[38]]),.one]
theorem J0(a b:Int):CallsF Tryz.prog 88 [.c (.int .i64 a),.c (.int .i64 b)] (.u (.c (.d (.int .i64 (Az a b))))):=by
 refine Ae (T:=tb) Ad mixed Tryz.func88 rfl (by decide) (Ac rfl) rfl ?_;unfold St.init
 unfold Az;by_cases h:a<b
 ·simp -implicitDefEqProofs[jJ,-natCast_add,-natCast_mul,h]
 ·by_cases h2:b<a
  ·simp -implicitDefEqProofs[jJ,-natCast_add,-natCast_mul,h,h2]
  ·simp -implicitDefEqProofs[jJ,-natCast_add,-natCast_mul,h,h2]
def Fct.Val(f:Fct):Prop:=f.kind=9→BR f.neg f.abs f.den=true
theorem Fct.Val.num{f:Fct}(h:f.Val)(hm:f.Mild):f.Num:=fun h9=>(C7 (h h9) hm.oa hm.od).2.2.1
theorem Fct.Rt.val{f:Fct}(h:f.Rt):f.Val:=fun h9=>by
 have:=h.parts.2.2.2
 rwa [if_pos h9]at this
theorem Ux{x y:List Int}{i:Nat}(hx:i≤x.length)(hy:i≤y.length)(h:i=x.length∨i=y.length):AL (x.drop i) (y.drop i)=Az x.length y.length:=by
 unfold Az;rcases h with h|h
 ·subst h;rw[List.drop_length,Ue,List.length_drop];by_cases h2:x.length<y.length
  ·rw[if_pos (by omega),if_pos (by omega)]
  ·rw[if_neg (by omega),if_neg (by omega),if_neg (by omega)]
 ·subst h;by_cases h2:y.length<x.length
  ·rw[if_neg (by omega),if_pos (by omega),AD h2,List.drop_length]
   rfl
  ·rw[if_neg (by omega),if_neg (by omega),List.drop_length,B7 (by omega)]
   rfl
theorem Ot(f g:Fct)(hf:f.Mild)(hg:g.Mild)(nf:f.Val)(ng:g.Val):CallsF Tryz.prog 43 [.agg f.ds,.agg g.ds] (.u (.c (.d (.int .i64 (Aw f g))))):=by
 have z:=cmpK_zero (a:=f) (b:=g);have e1:=L8 f g;have e2:=Fg f.kind g.kind;have e3:=Nb f.args g.args;rw[NB];obtain⟨k,a,n,m,d⟩:=f;obtain⟨k',a',n',m',d'⟩:=g;obtain⟨la,ld,oa,od,ln⟩:=hf;obtain⟨la',ld',oa',od',ln'⟩:=hg;simp only[Fct.Val,Fct.ds,Hc]at*;generalize cmpK ⟨k,a,n,m,d⟩ ⟨k',a',n',m',d'⟩=c at*;refine Ae (T:=tb) Ad mixed Tryz.func43 rfl (by decide) (Ac rfl) rfl ?_;unfold St.init
 by_cases hk:k=k'
 ·rw[if_neg (by simp[e2.2 hk])]at e1
  subst e1;simp -implicitDefEqProofs[jJ,-natCast_add,-natCast_mul,hk];refine Av (fun i:Nat=>⟨[(5,vI .i64 i),(2,vC (.ptr 2 0)),(3,vC (.ptr 3 0))],[(3,.box [.d (.int .i64 k'),.d (intsD a'),.d (.bool n'),.d (Ab m'),.d (Ab d')]),(2,.box [.d (.int .i64 k),.d (intsD a),.d (.bool n),.d (Ab m),.d (Ab d)])]⟩)
   (fun i=>i≤a.length∧i≤a'.length∧AL (a.drop i) (a'.drop i)=AL a a') (fun i=>a.length - i) 0 (by simp[hk]) ⟨by omega,by omega,rfl⟩ ?_
  rintro i ⟨h1,h2,h3⟩
  by_cases h:i<a.length
  ·by_cases h':i<a'.length
   ·have e4:=WJ h h';have e5:=Fg a[i] a'[i];have o:=J0 a[i] a'[i];by_cases h0:a[i]=a'[i]
    ·rw[if_pos (e5.2 h0)]at e4
     simp -implicitDefEqProofs[jJ,-natCast_add,-natCast_mul,h,h'];refine Af SU UQ (by rfl) ?_
     simp -implicitDefEqProofs[jJ,-natCast_add,-natCast_mul,h,h',i64,h0];exact⟨by omega,⟨by omega,by omega,by rw[←e4,h3]⟩,by omega⟩
    ·have h5:Az a[i] a'[i]≠0:=fun q=>h0 (e5.1 q)
     rw[if_neg h5,h3]at e4
     simp -implicitDefEqProofs[jJ,-natCast_add,-natCast_mul,h,h'];refine Af SU UQ (by rfl) ?_
     simp -implicitDefEqProofs[jJ,-natCast_add,-natCast_mul,h,h',i64,h0];refine Af (Aj [0,1,0,7,15,0,32,0,224,480,1023,2047]) [.any [] [] (Ao [[2],[41],[5],[42,43],[44],[3],[46],[5],[47,48],[49]]),.one,.one] (by rfl) ?_
     simp -implicitDefEqProofs[jJ,-natCast_add,-natCast_mul,h,h',i64,h0];refine Aa o ?_;simp -implicitDefEqProofs[jJ,-natCast_add,-natCast_mul,e4,h5]
   ·have e4:=Ux h1 h2 (.inr (by omega))
    rw[h3]at e4
    have o:=J0 a.length a'.length;have hn: ¬a.length=a'.length:=by omega
    have h5:Az (a.length:Int) a'.length≠0:=fun q=>hn (by have:=(Fg _ _).1 q;omega)
    simp -implicitDefEqProofs[jJ,-natCast_add,-natCast_mul,h,h',hn];refine Aa o ?_;simp -implicitDefEqProofs[jJ,-natCast_add,-natCast_mul,e4,h5]
  ·have e4:=Ux h1 h2 (.inl (by omega))
   rw[h3]at e4
   by_cases hn:a.length=a'.length
   ·have h5:Az (a.length:Int) a'.length=0:=(Fg _ _).2 (by omega)
    rw[h5]at e4
    have h'': ¬i<a'.length:=by omega
    by_cases h9:k=9
    ·have h9':k'=9:=by omega
     obtain⟨p1,p2,p3,p4,p5⟩:=C7 (nf h9) oa od
     obtain⟨q1,q2,q3,q4,q5⟩:=C7 (ng h9') oa' od'
     have l1:=oa.lt64 la;have l2:=od.lt64 ld;have l3:=oa'.lt64 la';have l4:=od'.lt64 ld';have r:=MF n n' (val m) (val d) (val m') (val d') (by omega) (by omega) p3 p4 (by omega) (by omega) q3 q4
     rw[←p1,←p2,←q1,←q2]at r
     simp -implicitDefEqProofs[jJ,-natCast_add,-natCast_mul,h,h'',hn,h9,h9'];refine Aa r ?_;simp -implicitDefEqProofs[jJ,-natCast_add,-natCast_mul,e4,h9]
    ·have h9': ¬k'=9:=by omega
     simp -implicitDefEqProofs[jJ,-natCast_add,-natCast_mul,h,h'',hn,h9,h9',e4,hk]
   ·have o:=J0 a.length a'.length;have h5:Az (a.length:Int) a'.length≠0:=fun q=>hn (by have:=(Fg _ _).1 q;omega)
    simp -implicitDefEqProofs[jJ,-natCast_add,-natCast_mul,h,hn];refine Aa o ?_;simp -implicitDefEqProofs[jJ,-natCast_add,-natCast_mul,e4,h5]
 ·have hz:Az k k'≠0:=fun q=>hk (e2.1 q)
  rw[if_pos hz]at e1
  subst e1;have o:=J0 k k';simp -implicitDefEqProofs[jJ,-natCast_add,-natCast_mul,hk];refine Aa o ?_;simp -implicitDefEqProofs[jJ,-natCast_add,-natCast_mul,hz]
theorem JL(f g:Fct)(hf:f.Mild)(hg:g.Mild)(nf:f.Val)(ng:g.Val):CallsF Tryz.prog 26 [.agg f.ds,.agg g.ds] (.u (.c (.d (.bool (decide (Aw f g=0)))))):=by
 have k:=Ot f g hf hg nf ng;clear hf hg nf ng;simp only[Fct.ds]at*;refine Ae (T:=tb) Ad mixed Tryz.func26 rfl (by decide) (Ac rfl) rfl ?_;unfold St.init
 simp -implicitDefEqProofs[jJ,-natCast_add,-natCast_mul];refine Aa k ?_;simp -implicitDefEqProofs[jJ,-natCast_add,-natCast_mul]
theorem H7(k:Int)(l:List Int):CallsF Tryz.prog 25 [.c (.int .i64 k),.c (intsD l)] (Fct.mk k l false [] []).res:=by
 refine Ae (T:=tb) Ad mixed Tryz.func25 rfl (by decide) (Ac rfl) rfl ?_;unfold St.init
 simp -implicitDefEqProofs[jJ,-natCast_add,-natCast_mul,Fct.res];rfl
deriving instance DecidableEq for Fnd
def ex1:Fct:=⟨5,[3,1,2],false,[],[]⟩
def ex2:Fct:=⟨5,[4,0,2],false,[],[]⟩
def ex3:Fct:=⟨1,[0,1,2],false,[],[]⟩
def ex4:Fct:=⟨4,[0,1,0,2],false,[],[]⟩
def ex5:Fct:=⟨5,[0,2,1],false,[],[]⟩
def IA:Fct:=⟨5,[0,1,2],false,[],[]⟩
def exP:Fct:=⟨2,[0,1,3,4],false,[],[]⟩
def KS:Fct:=⟨9,[0,1,3,4],false,limbs 4,limbs 1⟩
theorem ex1_rt:ex1.Rt:=Ev (by decide) (by decide) (by decide) (by decide)
theorem ex2_rt:ex2.Rt:=Ev (by decide) (by decide) (by decide) (by decide)
theorem ex3_rt:ex3.Rt:=Ev (by decide) (by decide) (by decide) (by decide)
theorem ex4_rt:ex4.Rt:=Ev (by decide) (by decide) (by decide) (by decide)
theorem ex5_rt:ex5.Rt:=Ev (by decide) (by decide) (by decide) (by decide)
theorem exP_rt:exP.Rt:=Ev (by decide) (by decide) (by decide) (by decide)
theorem Jf{f:Fct}(h:f.Rt):normF f=normG f:=by unfold normF;rw[if_pos h.ok]
theorem jcY:normF ex1=ex1:=by rw[Jf ex1_rt];decide
theorem jgY:normF ex2=ex2:=by rw[Jf ex2_rt];decide
theorem jgd:normF ex3=ex3:=by
 have h:normF ex3=⟨1,BE [0,1,2],false,[],[]⟩:=by
  rw[Jf ex3_rt];rfl
 rw[h,Hy];rfl
theorem jbL:normF ex4=ex4:=by rw[Jf ex4_rt];decide
theorem jg8:normF ex5=IA:=by rw[Jf ex5_rt];decide
theorem je2:Gn (rulT 6) [ex1,ex2]=[⟨exP,[]⟩,⟨KS,[]⟩]:=by
 rw[VV]
 decide+kernel
theorem jaY:Gn (rulT 28) [ex3,ex4]=[⟨IA,[⟨1,[1,2]⟩]⟩]:=by
 rw[VV]
 decide+kernel
theorem jhp:CG 6 [ex1,ex2]=[⟨exP,[]⟩,⟨KS,[]⟩]:=by
 unfold CG;rw[if_neg (by decide)]
 simp only[List.map_cons,List.map_nil,jcY,jgY];rw[if_neg (by decide)]
 exact je2
theorem jex:CG 28 [ex3,ex4]=[⟨IA,[⟨1,[1,2]⟩]⟩]:=by
 unfold CG;rw[if_neg (by decide)]
 simp only[List.map_cons,List.map_nil,jgd,jbL];rw[if_neg (by decide)]
 exact jaY
theorem OH(n:Int)(ps:List Fct)(hps: ∀f∈ps,f.Mild)(h3:ps.length≤3):FndOk (CG n ps)∧(CG n ps).length≤100000000000:=by
 unfold CG;split
 ·exact⟨.nil,by simp⟩
 split
 ·exact⟨.nil,by simp⟩
 ·rename_i h0 hz
  have hrt: ∀f∈ps.map normF,f.Rt:=fun f hf=>by
   obtain⟨g,hg,rfl⟩:=jzk.1 hf
   refine Ca (hps g hg) fun hk=>hz (List.any_eq_true.2 ⟨_,hf,by simpa using hk⟩)
  have hP:=Jw _ (Ih n) _ hrt;have hl:=Vl _ (Ih n) _ hrt (by simpa using h3)
  have hok:=G7 (nl:=ps.map normF) _ [] .nil hP;have hlen:=Ip (ps.map normF) (saysP (rulT n) (ps.map normF)) [];unfold Gn;refine⟨⟨fun x hx=>hok.rt x ((DV _).mem_iff.1 hx),fun x hx=>hok.sh x ((DV _).mem_iff.1 hx),?_⟩,?_⟩
  ·exact((DV _).pairwise_iff (fun h=>Ne.symm h)).2 hok.nd
  ·rw[I0]
   simp at hlen;omega
theorem L0(n:Int)(ps:List Fct)(hps: ∀f∈ps,f.Mild)(hd:(rulT n).derive= .nilFn)(hcn:(rulT n).count=((rulT n).prem.length:Int))(hl:ps.length≤1099511627776):
  CallsF Tryz.prog 29 [.c (.int .i64 n),.c (fctsD ps)] (.u (.c (.d (BQ (CG n ps))))):=by
 have q:=(Zv n ps hps hd hcn hl).dat;simp only[R.dat,RU.dat,RC.dat]at q;rw[IV]at q;exact q
theorem TX:CallsF Tryz.prog 9 [] (.u (.c (.d (.bool true)))):=by
 have o1:CallsF Tryz.prog 25 [.c (.int .i64 5),.c (.slice 3 [.int .i64 3,.int .i64 1,.int .i64 2])] ex1.res:=H7 5 [3,1,2];have o2:CallsF Tryz.prog 25 [.c (.int .i64 5),.c (.slice 3 [.int .i64 4,.int .i64 0,.int .i64 2])] ex2.res:=H7 5 [4,0,2];have o3:CallsF Tryz.prog 25 [.c (.int .i64 1),.c (.slice 3 [.int .i64 0,.int .i64 1,.int .i64 2])] ex3.res:=H7 1 [0,1,2];have o4:CallsF Tryz.prog 25 [.c (.int .i64 4),.c (.slice 4 [.int .i64 0,.int .i64 1,.int .i64 0,.int .i64 2])] ex4.res:=H7 4 [0,1,0,2];have o5:CallsF Tryz.prog 25 [.c (.int .i64 5),.c (.slice 3 [.int .i64 0,.int .i64 2,.int .i64 1])] ex5.res:=H7 5 [0,2,1];have oP:CallsF Tryz.prog 25 [.c (.int .i64 2),.c (.slice 4 [.int .i64 0,.int .i64 1,.int .i64 3,.int .i64 4])] exP.res:=H7 2 [0,1,3,4];have hm6: ∀f∈[ex1,ex2],f.Mild:=by intro f hf;simp at hf;rcases hf with rfl|rfl;exact ex1_rt.mild;exact ex2_rt.mild
 have hm28: ∀f∈[ex3,ex4],f.Mild:=by intro f hf;simp at hf;rcases hf with rfl|rfl;exact ex3_rt.mild;exact ex4_rt.mild
 have f6:=L0 6 [ex1,ex2] hm6 rfl rfl (by decide)
 have f28:=L0 28 [ex3,ex4] hm28 rfl rfl (by decide)
 have k6:=OH 6 [ex1,ex2] hm6 (by decide)
 have k28:=OH 28 [ex3,ex4] hm28 (by decide)
 have a6:=Sn 6 [ex1,ex2] _ k6.1 k6.2 f6;have a28:=VK 28 [ex3,ex4] ex5 ex5_rt.mild _ k28.1 k28.2 f28;rw[jhp]at a6;rw[jex,jg8]at a28;have u:BV (Bq [⟨exP,[]⟩,⟨KS,[]⟩])=[]:=by decide
 have v:Ej [⟨IA,[⟨1,[1,2]⟩]⟩] IA=([⟨1,[1,2]⟩],true):=by decide
 rw[u]at a6
 rw[if_neg (by decide),v]at a28
 have eP:=JL exP exP exP_rt.mild exP_rt.mild exP_rt.val exP_rt.val;rw[(Et exP_rt exP_rt).2 rfl]at eP;have f4:=GZ 4 (by omega)
 have e4:=TO false false 4 1 4 1 (by omega) (by omega) (by omega) (by decide) (by omega) (by omega) (by omega) (by decide)
 have cc:=jay;clear u v k6 k28 f6 f28 hm6 hm28;simp only[ex1,ex2,ex3,ex4,ex5,exP,KS,Fct.ds,Fct.res,fctsD,grdsD,factsL,List.map_cons,List.map_nil,List.flatMap_cons,List.flatMap_nil,List.append_nil,List.cons_append,List.nil_append,List.length_cons,List.length_nil,Grd.ds,Nat.zero_add,Nat.reduceAdd]at*;refine Ae (T:=tb) Ad mixed Tryz.func9 rfl (by decide) (Ac rfl) rfl ?_;unfold St.init
 simp -implicitDefEqProofs[jJ,-natCast_add,-natCast_mul];refine Aa o1 ?_;simp -implicitDefEqProofs[jJ,-natCast_add,-natCast_mul];refine Aa o2 ?_;simp -implicitDefEqProofs[jJ,-natCast_add,-natCast_mul];refine Aa a6 ?_;simp -implicitDefEqProofs[jJ,-natCast_add,-natCast_mul];refine Af (Aj [0,1,3,7,15,31,63,127,255,511,1023,2047,4095,8191,16383,32767,8191,73727,262143,524287,1048575,2097151,4194303,8388607,16777215,33554431,67108863,134217727,268435455,536870911,1073741823,2147483647,4294967295,536870911,17179869183,34359738367,68719476735]) [.one,.one,.one,.one,.one,.one,.one,.one,.one,.one,.one,.one,.one,.any [] [30] [⟨0,[1,26],[],[30],[]⟩,⟨0,[27,26],[],[30],[]⟩,⟨0,[28,26],[],[30],[]⟩,⟨4,[26],[],[],[]⟩,⟨0,[30,26],[],[],[]⟩],.one,.one,.one,.one,.one,.one,.one,.one,.one,.one,.one,.any [] [] (Ao [[1,42],[43,42],[44,42],[45,42],[42]]),.one,.one,.one] (by rfl) ?_
 simp -implicitDefEqProofs[jJ,-natCast_add,-natCast_mul];refine Aa cc ?_;simp -implicitDefEqProofs[jJ,-natCast_add,-natCast_mul];refine Al oP ?_;simp -implicitDefEqProofs[jJ,-natCast_add,-natCast_mul];refine Aa eP ?_;simp -implicitDefEqProofs[jJ,-natCast_add,-natCast_mul];refine Al f4 ?_;simp -implicitDefEqProofs[jJ,-natCast_add,-natCast_mul];refine Aa e4 ?_;simp -implicitDefEqProofs[jJ,-natCast_add,-natCast_mul];refine Aa o3 ?_;simp -implicitDefEqProofs[jJ,-natCast_add,-natCast_mul];refine Aa o4 ?_;simp -implicitDefEqProofs[jJ,-natCast_add,-natCast_mul];refine Aa o5 ?_;simp -implicitDefEqProofs[jJ,-natCast_add,-natCast_mul];refine Aa a28 ?_;simp -implicitDefEqProofs[jJ,-natCast_add,-natCast_mul,i64]
end Go.Va
