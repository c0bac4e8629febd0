/- a part of the proof -/
import Derived.Test.YtkfdniccmcolgaaGreatWbv
import Derived.Test.YtkfdniccmcolgaaGreatWbw
set_option linter.all false
set_option maxHeartbeats 4000000
set_option maxRecDepth 10000
namespace Go.Va
open Int (natCast_add natCast_mul natCast_emod natCast_ediv natCast_pow)
open Go.Proofs
def Q5:List (List Nat):=(Aj [0,1,0,7,15,31,0,64,0,448,960,0,4032,8191,0,32767])
@[simp]def RK:List Seg:=[.any [] [14] [⟨0,[6],[14],[14],[]⟩,⟨0,[41],[14],[14],[]⟩,⟨0,[13],[14],[14],[]⟩,⟨0,[42,43],[14],[14],[]⟩,⟨0,[44],[14],[14],[]⟩,⟨0,[45],[14],[14],[]⟩,⟨0,[6],[14],[14],[]⟩,⟨0,[47],[14],[14],[]⟩,⟨0,[13],[14],[14],[]⟩,⟨0,[48,49],[14],[14],[]⟩,⟨0,[50],[14],[14],[]⟩,⟨0,[9],[14],[14],[]⟩,⟨0,[51,52],[14],[14],[]⟩,⟨0,[46,53],[14],[14],[]⟩,⟨1,[],[],[],[]⟩],.one]
theorem SA{P:Fct→Prop}{G:List Grd→Prop}{F:Fct}{g:List Grd}(hF:P F)(hg:G g): ∀{l:List Fnd},(∀x∈l,P x.fact∧G x.grds)→ ∀x∈BL F g l,P x.fact∧G x.grds
 |[],_,x,h=>by
  rw[BL,List.mem_singleton]at h
  subst h;exact⟨hF,hg⟩
 |y::l,hl,x,h=>by
  have hy:=hl y (by simp)
  have hl':=fun z hz=>hl z (List.mem_cons_of_mem y hz)
  unfold BL at h;split at h
  ·rcases jzn.1 h with rfl|h
   ·exact hy
   ·exact SA hF hg hl' x h
  ·split at h
   ·split at h
    ·rcases jzn.1 h with rfl|h
     ·exact⟨hy.1,hg⟩
     ·exact hl' x h
    ·exact hl x h
   ·rcases jzn.1 h with rfl|h
    ·exact⟨hF,hg⟩
    ·exact hl x h
theorem TZ(F:Fct)(g:List Grd): ∀l:List Fnd,(BL F g l).length≤l.length+1
 |[]=>by simp[BL]
 |y::l=>by
  have ih:=TZ F g l;unfold BL;split
  ·simp;omega
  ·split
   ·split<;>simp
   ·simp
theorem Ps{P:Fct→Prop}{G:List Grd→Prop}{nl:List Fct}{f:Fct}{g:List Grd}(hF:P (normF f))(hg:G g){l:List Fnd}(hl: ∀x∈l,P x.fact∧G x.grds): ∀x∈noteR nl l f g,P x.fact∧G x.grds:=by
 unfold noteR;split
 ·exact hl
 ·exact SA hF hg hl
theorem SE(nl:List Fct)(l:List Fnd)(f:Fct)(g:List Grd):(noteR nl l f g).length≤l.length+1:=by
 unfold noteR;split
 ·omega
 ·exact TZ _ _ _
theorem Ku(nl:List Fct)(l:List Fnd)(A B:List AR):AE nl l (A++B)=AE nl (AE nl l A) B:=by
 unfold AE;rw[List.foldl_append]
theorem IN{P:Fct→Prop}{G:List Grd→Prop}{nl:List Fct}: ∀(Q:List AR) {l:List Fnd},(∀x∈l,P x.fact∧G x.grds)→(∀x∈Q,P (normF x.1)∧G x.2)→ ∀x∈AE nl l Q,P x.fact∧G x.grds
 |[],l,hl,_=>hl
 |y::Q,l,hl,hQ=>by
  have hy:=hQ y (by simp)
  exact IN Q (Ps hy.1 hy.2 hl) fun x hx=>hQ x (by simp[hx])
theorem La(nl:List Fct): ∀(Q:List AR) (l:List Fnd),(AE nl l Q).length≤l.length+Q.length
 |[],l=>by simp[AE]
 |y::Q,l=>by
  have h1:=La nl Q (noteR nl l y.1 y.2);have h2:=SE nl l y.1 y.2
  show(AE nl (noteR nl l y.1 y.2) Q).length≤_
  simp only[List.length_cons];omega
theorem Ob(n:Nmz): ∀(ps:List RPat) (out:List Grd),(∀q∈ps,q.letters.length≤1000∧ -1000≤q.kind∧q.kind≤1000)→(∀g∈out,g.In)→(∀g∈(CB ps n out).1,g.In)∧(CB ps n out).1.length≤out.length+ps.length
 |[],out,_,ho=>⟨ho,by simp[CB]⟩
 |q::ps,out,h,ho=>by
  obtain⟨q1,q2,q3⟩:=h q (by simp)
  rw[CB]
  cases hs:FG (argsR q n)with
  |none=>simp
  |some a=>
   have hlen:a.length=(argsR q n).length:=by
    have key: ∀(m:Nat) (b c:List Int) (j:Nat),Dj m b j=some c→c.length=b.length:=by
     intro m
     induction m with
     |zero=>intro b c j h;cases h;rfl
     |succ m ih=>
      intro b c j h;rw[Dj]at h;cases hi:CA j b j 0 with
      |none=>rw[hi]at h;cases h
      |some d=>
       rw[hi]at h
       rw[ih d c (j+1) h,TE _ _ _ _ _ hi]
    exact key _ _ _ _ hs
   have hal:=P8 q n;have gin:(Grd.mk q.kind a).In:=⟨by unfold Grd.Short;simp only;omega,q2,q3⟩
   obtain⟨i1,i2⟩:=Ob n ps (Bf out ⟨q.kind,a⟩) (fun p hp=>h p (by simp[hp])) fun g hg=>by
    rcases (It _ _ _).1 hg with rfl|hg
    ·exact gin
    ·exact ho g hg
   have:=LJ ⟨q.kind,a⟩ out
   refine⟨i1,?_⟩
   simp only[List.length_cons];omega
structure RRul.Fit (rr:RRul):Prop where
 frm: ∀q∈rr.frm,(∀c∈q.letters,97≤c.toNat∧c.toNat<123)∧q.letters.length≤1000∧(1≤q.kind∧q.kind≤8)∧(q.seg=true→q.kind=2∨q.kind=3∨q.kind=4∨q.kind=7)
 rdg: ∀q∈rr.frm,∀f:Fct,f.Rt→ ∀v∈C6 q f,v.length≤q.letters.length∧ ∀x∈v,0≤x∧x<2000
 to: ∀q∈rr.to,(∀c∈q.letters,97≤c.toNat∧c.toNat<123)∧q.letters.length≤1000∧0≤q.num∧q.num≤1000
 gua: ∀q∈rr.guards,(∀c∈q.letters,97≤c.toNat∧c.toNat<123)∧q.letters.length≤1000∧ -1000≤q.kind∧q.kind≤1000
 lens:rr.frm.length≤1000∧rr.to.length≤1000∧rr.guards.length≤100
def CM(rr:RRul)(n:Nmz)(G:List Grd)(j:Nat):List AR:=(rr.to.take j).map fun q=>(Ey n q,G)
theorem XP(rr:RRul)(n:Nmz)(G:List Grd){j:Nat}(h:j<rr.to.length):CM rr n G (j+1)=CM rr n G j++[(Ey n rr.to[j],G)]:=by
 unfold CM;rw[AQ h,List.map_append];rfl
theorem jfw(q:RPat)(n:Nmz)(hn:n.Ok)(hc: ∀c∈q.letters,97≤c.toNat∧c.toNat<123)(hll:q.letters.length≤1000):
  CallsF Tryz.prog 124 [.agg q.ds,.agg n.ds] (.u (.c (.d (intsD (argsR q n))))):=by
 have k:=(Q7 q n hn hc hll).dat;simp only[R.dat,RU.dat,RC.dat]at k;rw[AI (by simp)]at k
 exact k
theorem jdb(rr:RRul)(hr:rr.Fit)(nl:List Fct)(hnl: ∀f∈nl,f.Rt)(hnn:nl.length≤1000)(l:List Fnd)(n:Nmz)(hn:n.Ok)(hl: ∀x∈l,x.fact.Rt∧GK x.grds)(hll:l.length+(DG rr n).length≤100000000000)(hQ: ∀x∈DG rr n,x.1.Mild∧(normF x.1).Rt):
  CallsA Tryz.prog 67 6 l.length (l.flatMap Fnd.ds) [.agg rr.ds,.c (fctsD nl),.c (.int .i64 nl.length),.agg n.ds] (AE nl l (DG rr n)).length ((AE nl l (DG rr n)).flatMap Fnd.ds):=by
 have kg:=jcd rr.guards n hn hr.gua (by have:=hr.lens;omega)
 obtain⟨gi,gl⟩:=Ob n rr.guards [] (fun q hq=>(hr.gua q hq).2) (by simp)
 have hlens:=hr.lens;simp only[List.length_nil,Nat.zero_add]at gl;cases hok:(CB rr.guards n []).2 with
 |false=>
  have e:DG rr n=[]:=by unfold DG;rw[hok];rfl
  rw[e]
  rw[hok]at kg
  generalize (CB rr.guards n []).1=G at*;simp only[RRul.ds];refine Gt (T:=tb) Ad mixed Tryz.func67 rfl (by decide) (Ac rfl) rfl ?_;unfold St.initA
  simp -implicitDefEqProofs[jJ,-natCast_add,-natCast_mul,-List.reduceReplicate,BK,-A6,Ch,Cg,Cb];refine Aa kg ?_;simp -implicitDefEqProofs[jJ,-natCast_add,-natCast_mul,-List.reduceReplicate];refine Av (fun i:Nat=>⟨[(13,vI .i64 i),(12,vB false),(11,vC (.d (grdsD G))),(6,vC (.ptr 6 0)),(0,vC (.sl 2000000 0 l.length))],[(6,.box [.d (.str (bs rr.name)),.d (Bg rr.frm),.d (Bg rr.to),.d (Bg rr.guards)]),(2000000,.row 6 (l.flatMap Fnd.ds) true)]⟩) (fun i=>i=0) (fun i=>1) 0 (by simp[An,lk,St.le,vI,vC,vB]) rfl ?_
  rintro i rfl
  by_cases h:0<rr.to.length
  ·simp -implicitDefEqProofs[jJ,-natCast_add,-natCast_mul,-List.reduceReplicate,h,CV,AE]
  ·simp -implicitDefEqProofs[jJ,-natCast_add,-natCast_mul,-List.reduceReplicate,h,CV,AE]
 |true=>
  have e:DG rr n=CM rr n (CB rr.guards n []).1 rr.to.length:=by unfold DG CM;rw[hok,AZ];rfl
  rw[e]at hQ hll ⊢
  rw[hok]at kg
  generalize (CB rr.guards n []).1=G at*;simp only[RRul.ds];refine Gt (T:=tb) Ad mixed Tryz.func67 rfl (by decide) (Ac rfl) rfl ?_;unfold St.initA
  simp -implicitDefEqProofs[jJ,-natCast_add,-natCast_mul,-List.reduceReplicate,BK,-A6,Ch,Cg,Cb];refine Aa kg ?_;simp -implicitDefEqProofs[jJ,-natCast_add,-natCast_mul,-List.reduceReplicate];have eL0:AE nl l (CM rr n G 0)=l:=rfl;have eLs: ∀j (h:j<rr.to.length),AE nl l (CM rr n G (j+1))=noteR nl (AE nl l (CM rr n G j)) (Ey n rr.to[j]) G:=fun j h=>by
   rw[XP rr n G h,Ku]
   rfl
  have eLq: ∀j (h:j<rr.to.length),(Ey n rr.to[j]).Mild∧(normF (Ey n rr.to[j])).Rt:=fun j h=>hQ (Ey n rr.to[j],G) (by
   unfold CM;rw[AZ];exact jzk.2 ⟨rr.to[j],Ak h,rfl⟩)
  have eLi: ∀j,j≤rr.to.length→ ∀x∈AE nl l (CM rr n G j),x.fact.Rt∧GK x.grds:=fun j h=>IN _ hl fun x hx=>by
   unfold CM at hx;obtain⟨q,hq,rfl⟩:=jzk.1 hx;obtain⟨t,ht,rfl⟩:=List.mem_iff_getElem.1 (List.mem_of_mem_take hq);exact⟨(eLq t ht).2,gi⟩
  have eLl: ∀j,j≤rr.to.length→(AE nl l (CM rr n G j)).length≤100000000000:=fun j h=>by
   have h1:=La nl (CM rr n G j) l;have h2:(CM rr n G j).length≤(CM rr n G rr.to.length).length:=by unfold CM;simp;omega
   omega
  generalize hL:(fun j=>AE nl l (CM rr n G j))=L at*
  have hLj: ∀j,AE nl l (CM rr n G j)=L j:=fun j=>congrFun hL j
  simp only[hLj]at*;have kA:=fun j (h:j<rr.to.length)=>jfw rr.to[j] n hn (hr.to _ (Ak h)).1 (hr.to _ (Ak h)).2.1
  have kN:=fun j (h:j<rr.to.length)=>J6 nl (L j) (Ey n rr.to[j]) G hnl hnn (eLi j (by omega)) (eLl j (by omega)) (eLq j h).1 (eLq j h).2 gi (by omega)
  have kO:=fun j (h:j<rr.to.length)=>GZ rr.to[j].num.toNat (by have:=(hr.to _ (Ak h)).2.2;omega)
  simp only[Fct.ds,RPat.ds]at kA kN;refine BA [(2000000,70)] (fun j:Nat=>⟨[(13,vI .i64 j),(12,vB true),(11,vC (.d (grdsD G))),(9,vC (.ptr 9 0)),(6,vC (.ptr 6 0)),(2,vC (.d (fctsD nl))),(0,vC (.sl 2000000 0 (L j).length))],
   [(9,.box n.cs),(6,.box [.d (.str (bs rr.name)),.d (Bg rr.frm),.d (Bg rr.to),.d (Bg rr.guards)]),(2000000,.row 6 ((L j).flatMap Fnd.ds) true)]⟩)
   (fun j=>j≤rr.to.length) (fun j=>rr.to.length - j) 0 (by simp[An,lk,St.le,vI,vC,vB,eL0]) (by omega) ?_
  rintro j hj
  by_cases h:j<rr.to.length
  ·have e2:=OM h;have kA:=kA j h;have kN:=kN j h;have kO:=kO j h;have hnum:=(hr.to _ (Ak h)).2.2;rw[←eLs j h]at kN;by_cases k9:rr.to[j].kind=9
   ·simp -implicitDefEqProofs[jJ,-natCast_add,-natCast_mul,-List.reduceReplicate,h];refine Af Q5 RK (by rfl) ?_
    simp -implicitDefEqProofs[jJ,-natCast_add,-natCast_mul,-List.reduceReplicate,h,e2,-A6,Ch,Cg,Cb];refine Al kA ?_;rw[Int.toNat_of_nonneg hnum.1]at kO;simp only[Ey,k9,if_true]at kN;simp -implicitDefEqProofs[jJ,-natCast_add,-natCast_mul,-List.reduceReplicate,k9,h,e2];refine Aa kO ?_;simp -implicitDefEqProofs[jJ,-natCast_add,-natCast_mul,-List.reduceReplicate];refine .inr (.inr (.inr (.inr (.inr ⟨rfl,2000000,(L j).length,6,_,70,_,_,_,_,rfl,by simp[lk],?_,rfl,kN,?_⟩))))
    ·rfl
    simp -implicitDefEqProofs[jJ,-natCast_add,-natCast_mul,-List.reduceReplicate];exact⟨by omega,j+1,⟨⟨rfl,rfl⟩,rfl⟩,by omega,by omega⟩
   ·simp only[Ey,k9,if_false]at kN;simp -implicitDefEqProofs[jJ,-natCast_add,-natCast_mul,-List.reduceReplicate,h];refine Af Q5 RK (by rfl) ?_
    simp -implicitDefEqProofs[jJ,-natCast_add,-natCast_mul,-List.reduceReplicate,h,e2,-A6,Ch,Cg,Cb];refine Al kA ?_;simp -implicitDefEqProofs[jJ,-natCast_add,-natCast_mul,-List.reduceReplicate,k9];refine .inr (.inr (.inr (.inr (.inr ⟨rfl,2000000,(L j).length,6,_,70,_,_,_,_,rfl,by simp[lk],rfl,rfl,kN,?_⟩))))
    simp -implicitDefEqProofs[jJ,-natCast_add,-natCast_mul,-List.reduceReplicate];exact⟨by omega,j+1,⟨⟨rfl,rfl⟩,rfl⟩,by omega,by omega⟩
  ·have hj2:j=rr.to.length:=by omega
   subst hj2;simp -implicitDefEqProofs[jJ,-natCast_add,-natCast_mul,-List.reduceReplicate,CV]
def Si:List (List Nat):=(Aj [0,0,3,7,0,16,63,127])
@[simp]def Uo:List Seg:=[.any [] [] (Ao [[2],[3],[77,78],[79],[15],[81]]),.one,.one]
def LB:List (List Nat):=(Aj [0,1,0,0,12,28,0,127,255,511,511,0,3071,8191])
@[simp]def LA:List Seg:=[.any [] [18] [⟨0,[15],[18],[18],[]⟩,⟨0,[100],[18],[18],[]⟩,⟨0,[16],[18],[18],[]⟩,⟨0,[17],[18],[18],[]⟩,⟨0,[102,103],[18],[18],[]⟩,⟨0,[104],[18],[18],[]⟩,⟨0,[9],[18],[18],[]⟩,⟨0,[101,105,106],[18],[18],[]⟩,⟨0,[107],[18],[18],[]⟩,⟨0,[99],[18],[18],[]⟩,⟨0,[99],[18],[18],[]⟩,⟨1,[],[],[],[]⟩,⟨2,[18,108],[],[],[18]⟩],.one]
theorem Y0(f:Fct)(hf:f.Rt)(k:Int)(hk:1≤k∧k≤8):CallsF Tryz.prog 125 [.agg f.ds,.c (.int .i64 k)] (.u (.c (.d (EF (ptsR f k))))):=by
 have key:CallsF Tryz.prog 125 [.agg f.ds,.c (.int .i64 k)] (.u (.c (.own 1 (ptsR f k).length ((ptsR f k).map intsD)))):=by
  by_cases k2:k=2
  ·subst k2;exact jb6 f hf
  ·exact jht f hf k ⟨hk.1,hk.2,k2⟩
 have k:=key.dat;simp only[R.dat,RU.dat,RC.dat]at k;rw[AI (by simp)]at k
 exact k
theorem jf7(f:Fct)(k:Int):(De f k).length≤8:=by
 unfold De;split
 ·exact Nat.le_trans (Oc f) (by omega)
 ·split
  ·simp
  ·simp only;split<;>simp
theorem Zr(f:Fct)(hf:f.Rt)(k:Int)(hk:1≤k∧k≤8):(ptsR f k).length≤200:=by
 by_cases k2:k=2
 ·subst k2;rw[O9,Su];have:=Oc f;omega
 by_cases hke:f.kind=k
 ·rw[Ib k2 hke,List.length_map]
  have h1:=Hw ((Cd f).map (BU f)) [];have h2:(Cd f).length≤200:=by
   have hal:f.args.length≤4∨f.kind=7:=by
    rw[hf.parts.2.1]
    unfold arity;split
    ·simp
    ·split
     ·simp
     ·split
      ·rename_i h;exact .inr h
      ·split<;>simp
   unfold Cd;split
   ·rename_i h
    have hal:f.args.length≤4:=hal.resolve_right (by omega)
    have key: ∀n:Fin 5,(AP n.val).length≤200:=by decide+kernel
    exact key ⟨_,by omega⟩
   ·split
    ·decide
    ·split
     ·decide+kernel
     ·decide
  unfold varL;simp only[List.length_map,List.length_nil]at h1;omega
 ·rw[HO k2 hke]
  simp
theorem SW(q:RPat)(f:Fct)(hf:f.Rt)(hk:1≤q.kind∧q.kind≤8):(C6 q f).length≤200:=by
 unfold C6;split
 ·exact Nat.le_trans (jf7 f q.kind) (by omega)
 ·exact Zr f hf q.kind hk
def sayT(rr:RRul)(nl:List Fct)(k i:Nat)(q:RPat)(n:Nmz)(v:List Int):List AR:=if (Be q.letters v n).2 then BC rr nl k (i+1) (Be q.letters v n).1 else []
theorem Vo(rr:RRul)(hr:rr.Fit)(nl:List Fct)(hnl: ∀f∈nl,f.Rt)(hnn:nl.length≤1000)(hlen:nl.length=rr.frm.length): ∀(k i:Nat) (l:List Fnd) (n:Nmz),i+k=nl.length→n.Ok→(∀x∈l,x.fact.Rt∧GK x.grds)→
  l.length+(BC rr nl k i n).length≤100000000000→(∀x∈BC rr nl k i n,(x.1.Mild∧(normF x.1).Rt)∧GK x.2)→
  CallsA Tryz.prog 67 6 l.length (l.flatMap Fnd.ds) [.agg rr.ds,.c (fctsD nl),.c (.int .i64 i),.agg n.ds] (AE nl l (BC rr nl k i n)).length ((AE nl l (BC rr nl k i n)).flatMap Fnd.ds)
 |0,i,l,n,hi,hn,hl,hll,hQ=>by
  obtain rfl:i=nl.length:=by omega
  exact jdb rr hr nl hnl hnn l n hn hl hll fun x hx=>(hQ x hx).1
 |k+1,i,l,n,hi,hn,hl,hll,hQ=>by
  have hin:i<nl.length:=by omega
  have hiq:i<rr.frm.length:=by omega
  have hf:=hnl _ (Ak hin);obtain⟨c1,c2,c3,c4⟩:=hr.frm _ (Ak hiq);have c5:=hr.rdg _ (Ak hiq) _ hf;have eS:BC rr nl (k+1) i n=(C6 rr.frm[i] nl[i]).flatMap (sayT rr nl k i rr.frm[i] n):=by
   rw[BC,Ai hin,Ai hiq]
   rfl
  rw[eS]at hll hQ ⊢
  clear eS;have kP:=Y0 nl[i] hf rr.frm[i].kind c3;have kS:=fun h=>jco nl[i] hf rr.frm[i].kind (c4 h)
  have eR:C6 rr.frm[i] nl[i]=if rr.frm[i].seg then De nl[i] rr.frm[i].kind else ptsR nl[i] rr.frm[i].kind:=rfl
  have hRl:=SW rr.frm[i] nl[i] hf c3;generalize hRR:C6 rr.frm[i] nl[i]=R at*;have kM:=fun j (h:j<R.length)=>jer rr.frm[i].letters R[j] n hn (c5 _ (Ak h)).1 c1 (c5 _ (Ak h)).2 c2
  have mOk:=fun j (h:j<R.length)=>U3 rr.frm[i].letters R[j] n hn (c5 _ (Ak h)).2
  have eT: ∀j (h:j<R.length),sayT rr nl k i rr.frm[i] n R[j]=if (Be rr.frm[i].letters R[j] n).2 then BC rr nl k (i+1) (Be rr.frm[i].letters R[j] n).1 else []:=fun j h=>rfl
  generalize sayT rr nl k i rr.frm[i] n=T at*;have eL0:AE nl l ((R.take 0).flatMap T)=l:=rfl;have eLs: ∀j (h:j<R.length),AE nl l ((R.take (j+1)).flatMap T)=AE nl (AE nl l ((R.take j).flatMap T)) (T R[j]):=fun j h=>by
   rw[AQ h,List.flatMap_append,Ku]
   simp
  have sub: ∀j,∀x∈(R.take j).flatMap T,x∈R.flatMap T:=fun j x hx=>by
   obtain⟨v,hv,hx⟩:=List.mem_flatMap.1 hx
   exact List.mem_flatMap.2 ⟨v,List.mem_of_mem_take hv,hx⟩
  have eLi: ∀j,∀x∈AE nl l ((R.take j).flatMap T),x.fact.Rt∧GK x.grds:=fun j=>IN _ hl fun x hx=>⟨(hQ x (sub j x hx)).1.2,(hQ x (sub j x hx)).2⟩
  have flen: ∀j,j<R.length→((R.take j).flatMap T).length+(T (R.getD j [])).length≤(R.flatMap T).length:=fun j h=>by
   have e1:R.flatMap T=(R.take j).flatMap T++(T R[j]++(R.drop (j+1)).flatMap T):=by
    conv=>lhs;rw[←List.take_append_drop j R,AD h]
    rw[List.flatMap_append,List.flatMap_cons]
   have e2:R.getD j []=R[j]:=by rw[Ar,Ai h];rfl
   rw[e1,e2]
   simp only[List.length_append];omega
  have eLl: ∀j (h:j<R.length),(AE nl l ((R.take j).flatMap T)).length+(T R[j]).length≤100000000000:=fun j h=>by
   have h1:=La nl ((R.take j).flatMap T) l;have h2:=flen j h;have e2:R.getD j []=R[j]:=by rw[Ar,Ai h];rfl
   rw[e2]at h2
   omega
  have eQ: ∀j (h:j<R.length),∀x∈T R[j],(x.1.Mild∧(normF x.1).Rt)∧GK x.2:=fun j h x hx=>hQ x (List.mem_flatMap.2 ⟨_,Ak h,hx⟩)
  have eEnd:AE nl l (R.flatMap T)=AE nl l ((R.take R.length).flatMap T):=by rw[AZ]
  rw[eEnd]
  generalize hL:(fun j=>AE nl l ((R.take j).flatMap T))=L at*
  have hLj: ∀j,AE nl l ((R.take j).flatMap T)=L j:=fun j=>congrFun hL j
  simp only[hLj]at eL0 eLs eLi eLl ⊢;have IH:=fun j (h:j<R.length) (hm:(Be rr.frm[i].letters R[j] n).2=true)=>Vo rr hr nl hnl hnn hlen k (i+1) (L j) (Be rr.frm[i].letters R[j] n).1 (by omega) (mOk j h) (eLi j) (by
    have:=eLl j h
    rw[eT j h,if_pos hm]at this
    exact this) (by
    have:=eQ j h
    rw[eT j h,if_pos hm]at this
    exact this)
  have eLt: ∀j (h:j<R.length) (hm:(Be rr.frm[i].letters R[j] n).2=true),AE nl (L j) (BC rr nl k (i+1) (Be rr.frm[i].letters R[j] n).1)=L (j+1):=fun j h hm=>by
   rw[eLs j h,eT j h,if_pos hm]
  have eLf: ∀j (h:j<R.length) (hm:(Be rr.frm[i].letters R[j] n).2=false),L (j+1)=L j:=fun j h hm=>by
   rw[eLs j h,eT j h,if_neg (by simp[hm])]
   rfl
  clear hl hll hQ sub flen eEnd eQ eLl eLi eLs hL hLj hn mOk c5 eT hRR hnl;have e2:=DO hin;have e3:=OM hiq;have hne: ¬(i:Int)=(nl.length:Int):=by omega
  simp only[Fct.ds,RPat.ds,RRul.ds]at*;refine Gt (T:=tb) Ad mixed Tryz.func67 rfl (by decide) (Ac rfl) rfl ?_;unfold St.initA
  cases hsg:rr.frm[i].seg with
  |false=>
   rw[hsg]at eR
   simp only[Bool.false_eq_true,if_false]at eR;rw[←eR]at kP;simp -implicitDefEqProofs[jJ,-natCast_add,-natCast_mul,-List.reduceReplicate,BK,hne,hiq,e3,hsg];refine Af Si Uo (by rfl) ?_
   simp -implicitDefEqProofs[jJ,-natCast_add,-natCast_mul,-List.reduceReplicate,hin,e2];refine Aa kP ?_;simp -implicitDefEqProofs[jJ,-natCast_add,-natCast_mul,-List.reduceReplicate];refine BA [(2000000,117)] (fun j:Nat=>⟨[(17,vI .i64 j),(16,vC (.d (EF R))),(15,vC (.ptr 15 0)),(9,vC (.ptr 9 0)),(6,vC (.ptr 6 0)),(3,vI .i64 i),(2,vC (.d (fctsD nl))),(0,vC (.sl 2000000 0 (L j).length))],
    [(15,.box [.d (.int .i64 rr.frm[i].kind),.d (.str (bs rr.frm[i].letters)),.d (.bool false),.d (.int .i64 rr.frm[i].num)]),(9,.box n.cs),(6,.box [.d (.str (bs rr.name)),.d (Bg rr.frm),.d (Bg rr.to),.d (Bg rr.guards)]),(2000000,.row 6 ((L j).flatMap Fnd.ds) true)]⟩)
    (fun j=>j≤R.length) (fun j=>R.length - j) 0 (by simp[An,lk,St.le,vI,vC,vB,eL0]) (by omega) ?_
   rintro j hj
   by_cases h:j<R.length
   ·have kM:=kM j h;have ed:(R.drop j).map intsD=intsD R[j]::(R.drop (j+1)).map intsD:=by rw[AD h,List.map_cons]
    cases hm:(Be rr.frm[i].letters R[j] n).2 with
    |true=>
     have IH:=IH j h hm;rw[eLt j h hm]at IH;rw[hm]at kM;generalize (Be rr.frm[i].letters R[j] n).1=m at*;simp -implicitDefEqProofs[jJ,-natCast_add,-natCast_mul,-List.reduceReplicate,h];refine Af LB LA (by rfl) ?_
     simp -implicitDefEqProofs[jJ,-natCast_add,-natCast_mul,-List.reduceReplicate,h,ed,-A6,Ch,Cg,Cb];refine Al kM ?_;simp -implicitDefEqProofs[jJ,-natCast_add,-natCast_mul,-List.reduceReplicate];refine⟨by omega,.inr (.inr (.inr (.inr (.inr ⟨rfl,2000000,(L j).length,6,_,117,_,_,_,_,rfl,by simp[lk],?_,rfl,IH,?_⟩))))⟩
     ·simp[U.toA,toD]
     simp -implicitDefEqProofs[jJ,-natCast_add,-natCast_mul,-List.reduceReplicate];exact⟨by omega,j+1,⟨⟨rfl,rfl⟩,rfl⟩,by omega,by omega⟩
    |false=>
     have eLf:=eLf j h hm;rw[hm]at kM;generalize (Be rr.frm[i].letters R[j] n).1=m at*;simp -implicitDefEqProofs[jJ,-natCast_add,-natCast_mul,-List.reduceReplicate,h];refine Af LB LA (by rfl) ?_
     simp -implicitDefEqProofs[jJ,-natCast_add,-natCast_mul,-List.reduceReplicate,h,ed,-A6,Ch,Cg,Cb];refine Al kM ?_;simp -implicitDefEqProofs[jJ,-natCast_add,-natCast_mul,-List.reduceReplicate];exact⟨by omega,j+1,⟨⟨rfl,by rw[eLf]⟩,by rw[eLf]⟩,by omega,by omega⟩
   ·have hj2:j=R.length:=by omega
    subst hj2;simp -implicitDefEqProofs[jJ,-natCast_add,-natCast_mul,-List.reduceReplicate,CV]
  |true=>
   rw[hsg]at eR
   simp only[if_true]at eR;have kS:=kS hsg;rw[←eR]at kS;generalize ptsR nl[i] rr.frm[i].kind=PP at*;simp -implicitDefEqProofs[jJ,-natCast_add,-natCast_mul,-List.reduceReplicate,BK,hne,hiq,e3,hsg];refine Af Si Uo (by rfl) ?_
   simp -implicitDefEqProofs[jJ,-natCast_add,-natCast_mul,-List.reduceReplicate,hin,e2];refine Aa kP ?_;simp -implicitDefEqProofs[jJ,-natCast_add,-natCast_mul,-List.reduceReplicate];refine Af (Aj [0,0,3,7,0,16,63,127]) [.any [] [] (Ao [[2],[3],[86,87],[88],[15],[90]]),.one,.one] (by rfl) ?_
   simp -implicitDefEqProofs[jJ,-natCast_add,-natCast_mul,-List.reduceReplicate,hin,e2];refine Aa kS ?_;simp -implicitDefEqProofs[jJ,-natCast_add,-natCast_mul,-List.reduceReplicate];refine BA [(2000000,117)] (fun j:Nat=>⟨[(17,vI .i64 j),(16,vC (.d (EF R))),(15,vC (.ptr 15 0)),(9,vC (.ptr 9 0)),(6,vC (.ptr 6 0)),(3,vI .i64 i),(2,vC (.d (fctsD nl))),(0,vC (.sl 2000000 0 (L j).length))],
    [(15,.box [.d (.int .i64 rr.frm[i].kind),.d (.str (bs rr.frm[i].letters)),.d (.bool true),.d (.int .i64 rr.frm[i].num)]),(9,.box n.cs),(6,.box [.d (.str (bs rr.name)),.d (Bg rr.frm),.d (Bg rr.to),.d (Bg rr.guards)]),(2000000,.row 6 ((L j).flatMap Fnd.ds) true)]⟩)
    (fun j=>j≤R.length) (fun j=>R.length - j) 0 (by simp[An,lk,St.le,vI,vC,vB,eL0]) (by omega) ?_
   rintro j hj
   by_cases h:j<R.length
   ·have kM:=kM j h;have ed:(R.drop j).map intsD=intsD R[j]::(R.drop (j+1)).map intsD:=by rw[AD h,List.map_cons]
    cases hm:(Be rr.frm[i].letters R[j] n).2 with
    |true=>
     have IH:=IH j h hm;rw[eLt j h hm]at IH;rw[hm]at kM;generalize (Be rr.frm[i].letters R[j] n).1=m at*;simp -implicitDefEqProofs[jJ,-natCast_add,-natCast_mul,-List.reduceReplicate,h];refine Af LB LA (by rfl) ?_
     simp -implicitDefEqProofs[jJ,-natCast_add,-natCast_mul,-List.reduceReplicate,h,ed,-A6,Ch,Cg,Cb];refine Al kM ?_;simp -implicitDefEqProofs[jJ,-natCast_add,-natCast_mul,-List.reduceReplicate];refine⟨by omega,.inr (.inr (.inr (.inr (.inr ⟨rfl,2000000,(L j).length,6,_,117,_,_,_,_,rfl,by simp[lk],?_,rfl,IH,?_⟩))))⟩
     ·simp[U.toA,toD]
     simp -implicitDefEqProofs[jJ,-natCast_add,-natCast_mul,-List.reduceReplicate];exact⟨by omega,j+1,⟨⟨rfl,rfl⟩,rfl⟩,by omega,by omega⟩
    |false=>
     have eLf:=eLf j h hm;rw[hm]at kM;generalize (Be rr.frm[i].letters R[j] n).1=m at*;simp -implicitDefEqProofs[jJ,-natCast_add,-natCast_mul,-List.reduceReplicate,h];refine Af LB LA (by rfl) ?_
     simp -implicitDefEqProofs[jJ,-natCast_add,-natCast_mul,-List.reduceReplicate,h,ed,-A6,Ch,Cg,Cb];refine Al kM ?_;simp -implicitDefEqProofs[jJ,-natCast_add,-natCast_mul,-List.reduceReplicate];exact⟨by omega,j+1,⟨⟨rfl,by rw[eLf]⟩,by rw[eLf]⟩,by omega,by omega⟩
   ·have hj2:j=R.length:=by omega
    subst hj2;simp -implicitDefEqProofs[jJ,-natCast_add,-natCast_mul,-List.reduceReplicate,CV]
end Go.Va
