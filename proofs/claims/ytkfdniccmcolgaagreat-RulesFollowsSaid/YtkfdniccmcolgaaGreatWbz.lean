/- a part of the proof -/
import Derived.Test.YtkfdniccmcolgaaGreatWbx
import Derived.Test.YtkfdniccmcolgaaGreatWby
set_option linter.all false
set_option maxHeartbeats 4000000
set_option maxRecDepth 10000
namespace Go.Va
open Int (natCast_add natCast_mul natCast_emod natCast_ediv natCast_pow)
open Go.Proofs
def TU:List (List Nat):=(Aj [0,0,3,7,15,0,0,96,224,480,1023])
@[simp]def UW:List Seg:=[.any [] [] (Ao [[4],[6],[31,32],[33],[34],[5],[7],[36,37],[38],[39]]),.one]
@[simp high]theorem W1(l:List Fct):(l.flatMap F4).length=l.length*5:=EO WF l
def FO(l:List Fct):D:= .slice l.length (l.flatMap F4)
@[simp]theorem jio(l:List Fct):lenC (.d (FO l))=some l.length:=rfl
@[simp]theorem jiL(l:List Fct):D.flat (FO l)=false:=rfl
@[simp]theorem jh9(h:List (Nat×Blk))(i:Int)(l:List Fct):idxSl h 5 i (.d (FO l))=if 0≤i∧i<l.length then some (.d (.ref ((l.drop i.toNat).flatMap F4))) else none:=by
 unfold FO idxSl;simp only[W1,and_true,DZ WF]
def EU(g:Fct):Int:=atomN (g.args.getD 0 0) (g.args.getD 1 0)
def E0(g:Fct):Int:=atomN (g.args.getD 2 0) (g.args.getD 3 0)
theorem RP{l:List Fct}{i:Nat}(h:i<l.length):(l.drop i).flatMap F4= .int .i64 (EU l[i]):: .int .i64 (E0 l[i]):: .bool l[i].neg::Ab l[i].abs::Ab l[i].den::(l.drop (i+1)).flatMap F4:=by
 rw[AD h];rfl
theorem at_lt{g:Fct}(h: ∀i,0≤g.args.getD i 0∧g.args.getD i 0<40):(0≤EU g∧EU g<1600)∧0≤E0 g∧E0 g<1600:=by
 obtain⟨⟨q1,q2⟩,q3,q4⟩:=E7 (h 0) (h 1)
 obtain⟨⟨q5,q6⟩,q7,q8⟩:=E7 (h 2) (h 3)
 unfold EU E0;rw[Fb,Fb];omega
theorem Wo(f:Fct)(h:f.Rt):CallsF Tryz.prog 120 [.agg f.ds] (.u (.c (.d (FO (rdR f))))):=by
 have key:CallsF Tryz.prog 120 [.agg f.ds] (.u (.c (.own 5 (rdR f).length ((rdR f).flatMap F4)))):=by
  obtain⟨h1,h2,h3,h4⟩:=h.parts
  have hm:=h.mild;obtain⟨k,l,n,m,d⟩:=f;simp only at h1 h2 h3 h4;by_cases k4:k=4
  ·subst k4;obtain⟨a,b,c,e,rfl⟩:=By (by rw[h2];rfl:l.length=4)
   exact jgy a b c e (h3 a (by simp)) (h3 b (by simp)) (h3 c (by simp)) (h3 e (by simp)) n m d
  by_cases k9:k=9
  ·subst k9;obtain⟨a,b,c,e,rfl⟩:=By (by rw[h2];rfl:l.length=4)
   rw[if_pos rfl]at h4
   obtain⟨e1,e2,d0,hg,hn⟩:=C7 h4 hm.oa hm.od
   have hma:=Ec hm.oa hm.la;have hmd:=Ec hm.od hm.ld;simp only at e1 e2 d0 hg hma hmd;rw[e1,e2];exact je3 a b c e (h3 a (by simp)) (h3 b (by simp)) (h3 c (by simp)) (h3 e (by simp)) n (val m) (val d) hma hmd d0 hg
  ·have e:rdR ⟨k,l,n,m,d⟩=[]:=by simp[rdR,k4,k9]
   rw[e]
   exact Zd _ k4 k9
 have k:=key.dat;simp only[R.dat,RU.dat,RC.dat]at k;rw[AI (by simp)]at k
 exact k
def t4(a b:Fct):List AR:=if FM a b then [(Fm a b,[])] else []
theorem jhn(p q:Fct):(FU p q).map (fun f=>((f,[]):AR))=(rdR p).flatMap fun a=>(rdR q).flatMap (t4 a):=by
 unfold FU t4;rw[List.map_flatMap]
 congr 1
 funext a
 rw[List.map_flatMap]
 congr 1
 funext b
 split<;>rfl
def BX(A B:List Fct)(i k:Nat):List AR:=((A.take i).flatMap fun a=>B.flatMap (t4 a))++(B.take k).flatMap (t4 (A.getD i .zero))
theorem RY{A B:List Fct}{i k:Nat}(hi:i<A.length)(hk:k<B.length):BX A B i (k+1)=BX A B i k++t4 A[i] B[k]:=by
 unfold BX;have e:A.getD i .zero=A[i]:=by rw[Ar,Ai hi];rfl
 rw[AQ hk,List.flatMap_append,e,List.append_assoc]
 simp
theorem XM{A B:List Fct}{i:Nat}(hi:i<A.length):BX A B (i+1) 0=BX A B i B.length:=by
 unfold BX;have e:A.getD i .zero=A[i]:=by rw[Ar,Ai hi];rfl
 rw[AQ hi,List.flatMap_append,e,AZ]
 simp
theorem jhj(A B:List Fct):BX A B A.length 0=A.flatMap fun a=>B.flatMap (t4 a):=by
 unfold BX;rw[AZ];simp
theorem jgS(p q:Fct)(hp:p.Rt)(hq:q.Rt)(sp:p.Short2)(sq:q.Short2):
  CallsF Tryz.prog 65 [.c (fctsD [p,q])] (.u (.c (.own 6 (AE [p,q] [] ((FU p q).map fun f=>(f,[]))).length ((AE [p,q] [] ((FU p q).map fun f=>(f,[]))).flatMap Fnd.ds)))):=by
 have k1:=Wo p hp;have k2:=Wo q hq;obtain⟨_,ra,la⟩:=FA p hp;obtain⟨_,rb,lb⟩:=FA q hq;have aa:=HH hp;have ab:=HH hq;have sa:=K5 sp;have sb:=K5 sq;rw[jhn,←jhj];generalize rdR p=A at*;generalize rdR q=B at*;have mOk: ∀i k (hi:i<A.length) (hk:k<B.length),(Fm A[i] B[k]).Mild∧(normF (Fm A[i] B[k])).Rt:=fun i k hi hk=>by
  have ha:=Ak hi;have hb:=Ak hk;have hm:=Q0 (ra _ ha) (rb _ hb) (sa _ ha) (sb _ hb);have ho:=Qv (ra _ ha) (rb _ hb) (aa _ ha) (ab _ hb);refine⟨⟨hm.la,hm.ld,hm.oa,hm.od,by simp[Fm]⟩,?_⟩
  rw[VB (aa _ ha) (ab _ hb)]
  exact Ca hm fun h=>by rw[(GL hm).1 h]at ho;cases ho
 have hnl: ∀x∈[p,q],x.Rt:=fun x hx=>by
  simp only[jzn,AM,or_false]at hx;rcases hx with rfl|rfl<;>assumption
 have tOk: ∀a∈A,∀b∈B,∀x∈t4 a b,(normF x.1).Rt∧GK x.2:=fun a ha b hb x hx=>by
  obtain⟨i,hi,rfl⟩:=List.mem_iff_getElem.1 ha
  obtain⟨k,hk,rfl⟩:=List.mem_iff_getElem.1 hb
  unfold t4 at hx;split at hx
  ·rw[List.mem_singleton]at hx
   subst hx;exact⟨(mOk i k hi hk).2,by simp[GK]⟩
  ·cases hx
 have preOk: ∀i k,(i<A.length∨k=0)→ ∀x∈BX A B i k,(normF x.1).Rt∧GK x.2:=fun i k hik x hx=>by
  unfold BX at hx;rcases List.mem_append.1 hx with hx|hx
  ·obtain⟨a,ha,hx⟩:=List.mem_flatMap.1 hx
   obtain⟨b,hb,hx⟩:=List.mem_flatMap.1 hx
   exact tOk a (List.mem_of_mem_take ha) b hb x hx
  ·obtain⟨b,hb,hx⟩:=List.mem_flatMap.1 hx
   rcases hik with h|h
   ·have e:A.getD i .zero=A[i]:=by rw[Ar,Ai h];rfl
    rw[e]at hx
    exact tOk _ (Ak h) b (List.mem_of_mem_take hb) x hx
   ·subst h;cases hb
 have tl: ∀a b,(t4 a b).length≤1:=fun a b=>by unfold t4;split<;>simp
 have preLn: ∀i k,(BX A B i k).length≤1000:=fun i k=>by
  unfold BX;have h1: ∀a,(B.flatMap (t4 a)).length≤2:=fun a=>Nat.le_trans (E3 (m:=1) fun b _=>tl a b) (by omega)
  have h2:=E3 (f:=fun a=>B.flatMap (t4 a)) (m:=2) (l:=A.take i) fun a _=>h1 a
  have h3:=E3 (f:=t4 (A.getD i .zero)) (m:=1) (l:=B.take k) fun b _=>tl _ b
  rw[List.length_append]
  simp only[AG]at h2 h3;omega
 have eLi: ∀i k,(i<A.length∨k=0)→ ∀x∈AE [p,q] [] (BX A B i k),x.fact.Rt∧GK x.grds:=fun i k hik=>IN _ (by simp) (preOk i k hik)
 have eLl: ∀i k,(AE [p,q] [] (BX A B i k)).length≤1000:=fun i k=>Nat.le_trans (La _ _ _) (by have:=preLn i k;simp;omega)
 have eLt: ∀i k (hi:i<A.length) (hk:k<B.length),FM A[i] B[k]=true→AE [p,q] [] (BX A B i (k+1))=noteR [p,q] (AE [p,q] [] (BX A B i k)) (Fm A[i] B[k]) []:=fun i k hi hk hm=>by
  rw[RY hi hk,Ku]
  unfold t4;rw[if_pos hm];rfl
 have eLf: ∀i k (hi:i<A.length) (hk:k<B.length),¬FM A[i] B[k]=true→AE [p,q] [] (BX A B i (k+1))=AE [p,q] [] (BX A B i k):=fun i k hi hk hm=>by
  rw[RY hi hk,Ku]
  unfold t4;rw[if_neg hm];rfl
 have eLn: ∀i (hi:i<A.length),AE [p,q] [] (BX A B (i+1) 0)=AE [p,q] [] (BX A B i B.length):=fun i hi=>by rw[XM hi]
 have eL0:AE [p,q] [] (BX A B 0 0)=[]:=rfl
 generalize hL:(fun i k=>AE [p,q] [] (BX A B i k))=L at*
 have hLj: ∀i k,AE [p,q] [] (BX A B i k)=L i k:=fun i k=>congrFun (congrFun hL i) k
 simp only[hLj]at eL0 eLn eLf eLt eLl eLi ⊢;have kN:=fun i k (hi:i<A.length) (hk:k<B.length)=>J6 [p,q] (L i k) (Fm A[i] B[k]) [] hnl (by simp) (eLi i k (.inl hi)) (by have:=eLl i k;omega) (mOk i k hi hk).1 (mOk i k hi hk).2 (by simp[GK]) (by simp)
 have kM:=fun i k (hi:i<A.length) (hk:k<B.length)=>XY A[i].neg B[k].neg A[i].abs A[i].den B[k].abs B[k].den (ra _ (Ak hi)).mild.oa (sa _ (Ak hi)).1 (ra _ (Ak hi)).mild.od (sa _ (Ak hi)).2 (rb _ (Ak hk)).mild.oa (sb _ (Ak hk)).1 (rb _ (Ak hk)).mild.od (sb _ (Ak hk)).2 (ra _ (Ak hi)).den (rb _ (Ak hk)).den
 have lA:=fun i (hi:i<A.length)=>at_lt (aa _ (Ak hi))
 have lB:=fun i (hi:i<B.length)=>at_lt (ab _ (Ak hi))
 have meetE: ∀i k (hi:i<A.length) (hk:k<B.length),FM A[i] B[k]=decide (E0 A[i]=EU B[k]):=fun i k hi hk=>rfl
 have ep:fctsD [p,q]=D.slice 2 (p.ds++q.ds):=by simp[fctsD]
 clear ra rb aa ab sa sb sp sq mOk tOk preOk tl preLn eLi hL hLj hnl hp hq;simp only[ep]at kN ⊢;simp only[Fct.ds,Dh]at*;refine Ae (T:=tb) Ad mixed Tryz.func65 rfl (by decide) (Ac rfl) rfl ?_;unfold St.init
 simp -implicitDefEqProofs[jJ,-natCast_add,-natCast_mul,-natCast_emod,-natCast_ediv,-natCast_pow];refine Af (Aj [0,1,3,7,0,16,48,127,255,511]) [.any [] [] (Ao [[0],[11],[12],[13],[0],[15],[16]]),.one,.one,.one] (by rfl) ?_
 simp -implicitDefEqProofs[jJ,-natCast_add,-natCast_mul,-natCast_emod,-natCast_ediv,-natCast_pow];refine Al k1 ?_;simp -implicitDefEqProofs[jJ,-natCast_add,-natCast_mul,-natCast_emod,-natCast_ediv,-natCast_pow];refine Aa k2 ?_;simp -implicitDefEqProofs[jJ,-natCast_add,-natCast_mul,-natCast_emod,-natCast_ediv,-natCast_pow];refine Av (fun i:Nat=>⟨[(6,vI .i64 i),(5,vC (.d (FO B))),(4,vC (.d (FO A))),(3,vC (.sl 3 0 (L i 0).length)),(0,vC (.d (.slice 2 ([.int .i64 p.kind,intsD p.args,.bool p.neg,Ab p.abs,Ab p.den]++[.int .i64 q.kind,intsD q.args,.bool q.neg,Ab q.abs,Ab q.den]))))],[(3,.row 6 ((L i 0).flatMap Fnd.ds) true)]⟩)
  (fun i=>i≤A.length) (fun i=>A.length - i) 0 (by simp[An,lk,St.le,vI,vC,eL0]) (by omega) ?_
 rintro i hi
 by_cases h:i<A.length
 ·simp -implicitDefEqProofs[jJ,-natCast_add,-natCast_mul,-natCast_emod,-natCast_ediv,-natCast_pow,h];refine BA [(3,76)] (fun k:Nat=>⟨[(7,vI .i64 k),(6,vI .i64 i),(5,vC (.d (FO B))),(4,vC (.d (FO A))),(3,vC (.sl 3 0 (L i k).length)),(0,vC (.d (.slice 2 ([.int .i64 p.kind,intsD p.args,.bool p.neg,Ab p.abs,Ab p.den]++[.int .i64 q.kind,intsD q.args,.bool q.neg,Ab q.abs,Ab q.den]))))],[(3,.row 6 ((L i k).flatMap Fnd.ds) true)]⟩)
   (fun k=>k≤B.length) (fun k=>B.length - k) 0 (by simp[An,lk,St.le,vI,vC]) (by omega) ?_
  rintro k hk'
  by_cases hk:k<B.length
  ·have kN:=kN i k h hk;have kM:=kM i k h hk;have lA:=lA i h;have lB:=lB k hk;have ea:=RP h;have eb:=RP hk;by_cases hm:FM A[i] B[k]=true
   ·rw[←eLt i k h hk hm]at kN
    have hm':E0 A[i]=EU B[k]:=by rw[meetE i k h hk]at hm;simpa using hm
    have t1:(EU A[i]).tdiv 40=EU A[i]/40:=Int.tdiv_eq_ediv_of_nonneg lA.1.1
    have t2:(EU A[i]).tmod 40=EU A[i]%40:=Int.tmod_eq_emod_of_nonneg lA.1.1
    have t3:(E0 B[k]).tdiv 40=E0 B[k]/40:=Int.tdiv_eq_ediv_of_nonneg lB.2.1
    have t4:(E0 B[k]).tmod 40=E0 B[k]%40:=Int.tmod_eq_emod_of_nonneg lB.2.1
    simp -implicitDefEqProofs[jJ,-natCast_add,-natCast_mul,-natCast_emod,-natCast_ediv,-natCast_pow,hk];refine Af TU UW (by rfl) ?_
    simp -implicitDefEqProofs[jJ,-natCast_add,-natCast_mul,-natCast_emod,-natCast_ediv,-natCast_pow,h,hk,ea,eb,hm'];refine Af (Aj [0,0,3,7,15,0,0,96,224,480,31,2047]) [.any [] [] (Ao [[4],[6],[42,43],[44],[45],[5],[7],[47,48],[49],[50],[46]]),.one] (by rfl) ?_
    simp -implicitDefEqProofs[jJ,-natCast_add,-natCast_mul,-natCast_emod,-natCast_ediv,-natCast_pow,h,hk,ea,eb];refine Af (Aj [0,1,0,4,0,16,0,64,255,0,0,1536,3584,7680,0,0,49152,114688,245760,523776,1048575,0,4194303]) [.any [] [10,60] [⟨0,[8],[10],[10,60],[]⟩,⟨0,[52],[10],[10,60],[]⟩,⟨0,[8],[10],[10,60],[]⟩,⟨0,[54],[10],[10,60],[]⟩,⟨0,[9],[10],[10,60],[]⟩,⟨0,[56],[10],[10,60],[]⟩,⟨0,[9],[10],[10,60],[]⟩,⟨0,[58],[10],[10,60],[]⟩,⟨4,[53,55,57,59],[10],[10],[]⟩,⟨0,[4],[10],[10,60],[]⟩,⟨0,[6],[10],[10,60],[]⟩,⟨0,[61,62],[10],[10,60],[]⟩,⟨0,[63],[10],[10,60],[]⟩,⟨0,[64],[10],[10,60],[]⟩,⟨0,[5],[10],[10,60],[]⟩,⟨0,[7],[10],[10,60],[]⟩,⟨0,[66,67],[10],[10,60],[]⟩,⟨0,[68],[10],[10,60],[]⟩,⟨0,[69],[10],[10,60],[]⟩,⟨0,[65,70],[10],[10,60],[]⟩,⟨0,[60,71],[10],[10],[]⟩,⟨1,[],[],[60],[]⟩],.one] (by rfl) ?_
    simp -implicitDefEqProofs[jJ,-natCast_add,-natCast_mul,-natCast_emod,-natCast_ediv,-natCast_pow,h,hk,ea,eb,t1,t2,t3,t4];refine⟨by omega,by omega,?_⟩
    refine Al kM ?_;simp -implicitDefEqProofs[jJ,-natCast_add,-natCast_mul,-natCast_emod,-natCast_ediv,-natCast_pow];refine .inr (.inr (.inr (.inr (.inr ⟨rfl,3,(L i k).length,6,_,76,_,_,_,_,rfl,by simp[lk],?_,rfl,kN,?_⟩))))
    ·rfl
    simp -implicitDefEqProofs[jJ,-natCast_add,-natCast_mul,-natCast_emod,-natCast_ediv,-natCast_pow];exact⟨by omega,k+1,⟨⟨rfl,rfl⟩,rfl⟩,by omega,by omega⟩
   ·have hm': ¬E0 A[i]=EU B[k]:=by rw[meetE i k h hk]at hm;simpa using hm
    simp -implicitDefEqProofs[jJ,-natCast_add,-natCast_mul,-natCast_emod,-natCast_ediv,-natCast_pow,hk];refine Af TU UW (by rfl) ?_
    simp -implicitDefEqProofs[jJ,-natCast_add,-natCast_mul,-natCast_emod,-natCast_ediv,-natCast_pow,h,hk,ea,eb,hm'];have e:=eLf i k h hk hm;exact⟨by omega,k+1,⟨⟨rfl,by rw[e]⟩,by rw[e]⟩,by omega,by omega⟩
  ·have hk2:k=B.length:=by omega
   subst hk2;simp -implicitDefEqProofs[jJ,-natCast_add,-natCast_mul,-natCast_emod,-natCast_ediv,-natCast_pow];have e:=eLn i h;exact⟨by omega,i+1,⟨⟨rfl,by rw[e]⟩,by rw[e]⟩,by omega,by omega⟩
 ·have hi2:i=A.length:=by omega
  subst hi2;simp -implicitDefEqProofs[jJ,-natCast_add,-natCast_mul,-natCast_emod,-natCast_ediv,-natCast_pow]
theorem YD(p q:Fct)(h:p.kind≠8):CallsF Tryz.prog 66 [.c (fctsD [p,q])] (.u (.c (.own 6 0 []))):=by
 have ep:fctsD [p,q]=D.slice 2 (p.ds++q.ds):=by simp[fctsD]
 rw[ep]
 simp only[Fct.ds];refine Ae (T:=tb) Ad mixed Tryz.func66 rfl (by decide) (Ac rfl) rfl ?_;unfold St.init
 simp -implicitDefEqProofs[jJ,-natCast_add,-natCast_mul,h]
def subT(u v:Int)(l:List Int)(k:Nat):List Int:=Ck u v (l.take k)
theorem Ry{u v:Int}{l:List Int}{k:Nat}(h:k<l.length):subT u v l (k+1)=subT u v l k++[if l[k]=u then v else l[k]]:=by
 unfold subT Ck;rw[AQ h,List.map_append];rfl
theorem Rf{u v:Int}{l:List Int}{k:Nat}(h:k≤l.length):(subT u v l k).length=k:=by
 unfold subT;rw[GO,AG];omega
theorem Wf(u v:Int)(l:List Int):subT u v l l.length=Ck u v l:=by unfold subT;rw[AZ]
theorem Xq(p q:Fct)(hp:p.Rt)(hq:q.Rt)(hk:p.kind=8)(a b:Int)(ha:p.args=[a,b]):
  CallsF Tryz.prog 66 [.c (fctsD [p,q])] (.u (.c (.own 6 (AE [p,q] [] [(A8 a b q,[]),(A8 b a q,[])]).length ((AE [p,q] [] [(A8 a b q,[]),(A8 b a q,[])]).flatMap Fnd.ds)))):=by
 have hnl: ∀x∈[p,q],x.Rt:=fun x hx=>by
  simp only[jzn,AM,or_false]at hx;rcases hx with rfl|rfl<;>assumption
 have h3:=hp.parts.2.2.1;rw[ha]at h3;have okS: ∀u v:Int,(0≤v∧v<40)→(A8 u v q).Mild∧(normF (A8 u v q)).Rt:=fun u v hv=>by
  have hm:(A8 u v q).Mild:=I1 hq.mild;have ho:=L9 (a:=u) hq hv;exact⟨hm,Ca hm fun h=>by rw[(GL hm).1 h]at ho;cases ho⟩
 have o1:=okS a b (h3 b (by simp))
 have o2:=okS b a (h3 a (by simp))
 have n0:q.args.length≠0:=by
  have:=hq.parts
  rw[this.2.1]
  exact this.1
 have nb:q.args.length≤8:=by
  rw[hq.parts.2.1]
  unfold arity;split
  ·omega
  ·split
   ·omega
   ·split
    ·omega
    ·split<;>omega
 have k1:=J6 [p,q] [] (A8 a b q) [] hnl (by simp) (by simp) (by simp) o1.1 o1.2 (by simp[GK]) (by simp)
 have i1: ∀x∈noteR [p,q] [] (A8 a b q) [],x.fact.Rt∧GK x.grds:=Ps o1.2 (by simp[GK]) (by simp)
 have l1:=SE [p,q] [] (A8 a b q) [];have k2:=J6 [p,q] (noteR [p,q] [] (A8 a b q) []) (A8 b a q) [] hnl (by simp) i1 (by simp at l1;omega) o2.1 o2.2 (by simp[GK]) (by simp)
 rw[show AE [p,q] [] [(A8 a b q,[]),(A8 b a q,[])]=noteR [p,q] (noteR [p,q] [] (A8 a b q) []) (A8 b a q) [] from rfl]
 have ep:fctsD [p,q]=D.slice 2 (p.ds++q.ds):=by simp[fctsD]
 have e1:(A8 a b q).ds=[.int .i64 q.kind,.slice q.args.length ((subT a b q.args q.args.length).map i64),.bool q.neg,Ab q.abs,Ab q.den]:=by
  rw[Wf]
  show[_,intsD _,_,_,_]=_
  unfold intsD BT A8;rw[GO]
 have e2:(A8 b a q).ds=[.int .i64 q.kind,.slice q.args.length ((subT b a q.args q.args.length).map i64),.bool q.neg,Ab q.abs,Ab q.den]:=by
  rw[Wf]
  show[_,intsD _,_,_,_]=_
  unfold intsD BT A8;rw[GO]
 simp only[ep,e1,e2]at k1 k2 ⊢;generalize noteR [p,q] (noteR [p,q] [] (A8 a b q) []) (A8 b a q) []=L2 at*;generalize noteR [p,q] [] (A8 a b q) []=L1 at*;have sS1:=fun k (h:k<q.args.length)=> @Ry a b q.args k h
 have sS2:=fun k (h:k<q.args.length)=> @Ry b a q.args k h
 have sL1:=fun k (h:k≤q.args.length)=> @Rf a b q.args k h
 have sL2:=fun k (h:k≤q.args.length)=> @Rf b a q.args k h
 have s01:subT a b q.args 0=[]:=rfl
 have s02:subT b a q.args 0=[]:=rfl
 generalize subT a b q.args=T1 at*;generalize subT b a q.args=T2 at*;clear hp hq hnl h3 okS o1 o2 i1 e1 e2;simp only[Fct.ds,ha,hk]at*;obtain⟨qk,ql,qn,qm,qd⟩:=q;simp only at*;refine Ae (T:=tb) Ad mixed Tryz.func66 rfl (by decide) (Ac rfl) rfl ?_;unfold St.init
 simp -implicitDefEqProofs[jJ,-natCast_add,-natCast_mul];refine BA [(3,63)] (fun i:Nat=>match i with
   |0=>⟨[(4,vI .i64 0),(3,vC (.sl 3 0 0)),(0,vC (.d (.slice 2 ([.int .i64 8,intsD [a,b],.bool p.neg,Ab p.abs,Ab p.den]++[.int .i64 qk,intsD ql,.bool qn,Ab qm,Ab qd]))))],[(3,.row 6 [] true)]⟩
   |1=>⟨[(4,vI .i64 1),(3,vC (.sl 3 0 L1.length)),(0,vC (.d (.slice 2 ([.int .i64 8,intsD [a,b],.bool p.neg,Ab p.abs,Ab p.den]++[.int .i64 qk,intsD ql,.bool qn,Ab qm,Ab qd]))))],[(3,.row 6 (L1.flatMap Fnd.ds) true)]⟩
   |_=>⟨[(4,vI .i64 2),(3,vC (.sl 3 0 L2.length)),(0,vC (.d (.slice 2 ([.int .i64 8,intsD [a,b],.bool p.neg,Ab p.abs,Ab p.den]++[.int .i64 qk,intsD ql,.bool qn,Ab qm,Ab qd]))))],[(3,.row 6 (L2.flatMap Fnd.ds) true)]⟩)
  (fun i=>i≤2) (fun i=>2 - i) 0 (by simp[An,lk,St.le,vI,vC]) (by omega) ?_
 rintro i hi
 match i,hi with
 |0,_=>
  simp -implicitDefEqProofs[jJ,-natCast_add,-natCast_mul];refine Av (fun k:Nat=>match k with
    |0=>⟨[(6,vI .i64 0),(5,vC (.ptr 5 0)),(4,vI .i64 0),(3,vC (.sl 3 0 0)),(0,vC (.d (.slice 2 ([.int .i64 8,intsD [a,b],.bool p.neg,Ab p.abs,Ab p.den]++[.int .i64 qk,intsD ql,.bool qn,Ab qm,Ab qd]))))],[(5,.box [.d (.int .i64 qk),.nl,.d (.bool qn),.d (Ab qm),.d (Ab qd)]),(3,.row 6 [] true)]⟩
    |k+1=>⟨[(6,vI .i64 (k+1:Nat)),(5,vC (.ptr 5 0)),(4,vI .i64 0),(3,vC (.sl 3 0 0)),(0,vC (.d (.slice 2 ([.int .i64 8,intsD [a,b],.bool p.neg,Ab p.abs,Ab p.den]++[.int .i64 qk,intsD ql,.bool qn,Ab qm,Ab qd]))))],[(5,.box [.d (.int .i64 qk),.sl 58 0 (k+1),.d (.bool qn),.d (Ab qm),.d (Ab qd)]),(58,.row 1 ((T1 (k+1)).map i64) true),(3,.row 6 [] true)]⟩)
   (fun k=>k≤ql.length) (fun k=>ql.length - k) 0 (by simp[An,lk,St.le,vI,vC]) (by omega) ?_
  rintro k hk'
  by_cases h:k<ql.length
  ·have es:=sS1 k h;have el:=sL1 k hk';have hg:(ql.drop k).map i64= .int .i64 ql[k]::(ql.drop (k+1)).map i64:=by rw[AD h];rfl
   by_cases c1:ql[k]=a
   ·rw[if_pos c1]at es
    cases k with
    |zero=>
     simp -implicitDefEqProofs[jJ,-natCast_add,-natCast_mul,h,c1,i64];exact⟨1,by simp[An,lk,es,s01,i64],by omega,by omega⟩
    |succ k=>
     simp -implicitDefEqProofs[jJ,-natCast_add,-natCast_mul,h,c1,i64];exact⟨by omega,⟨by omega,by omega⟩,by omega,k+2,by simp[An,lk,es,i64],by omega,by omega⟩
   ·rw[if_neg c1]at es
    cases k with
    |zero=>
     simp -implicitDefEqProofs[jJ,-natCast_add,-natCast_mul,h,c1,i64];exact⟨1,by simp[An,lk,es,s01,i64],by omega,by omega⟩
    |succ k=>
     simp -implicitDefEqProofs[jJ,-natCast_add,-natCast_mul,h,c1,i64];exact⟨by omega,⟨by omega,by omega⟩,by omega,k+2,by simp[An,lk,es,i64],by omega,by omega⟩
  ·obtain⟨k,rfl⟩: ∃m,k=m+1:=⟨k - 1,by omega⟩
   have e9:k+1=ql.length:=by omega
   have el:=sL1 (k+1) (by omega)
   rw[←e9]at k1
   simp -implicitDefEqProofs[jJ,-natCast_add,-natCast_mul,h];refine .inr (.inr (.inr (.inr (.inl (.inr (.inr (.inr ⟨rfl,[58],3,0,6,_,63,_,_,_,_,rfl,by decide,?_,?_,rfl,k1,?_⟩)))))))
   ·simp -implicitDefEqProofs[jJ,-natCast_add,-natCast_mul,lk]
   ·simp -implicitDefEqProofs[jJ,-natCast_add,-natCast_mul,U.toA,toD,el];exact⟨AI (by simp[el]),rfl⟩
   simp -implicitDefEqProofs[jJ,-natCast_add,-natCast_mul,el];exact⟨1,by simp[An,lk],by omega,by omega⟩
 |1,_=>
  simp -implicitDefEqProofs[jJ,-natCast_add,-natCast_mul];refine Av (fun k:Nat=>match k with
    |0=>⟨[(6,vI .i64 0),(5,vC (.ptr 5 0)),(4,vI .i64 1),(3,vC (.sl 3 0 L1.length)),(0,vC (.d (.slice 2 ([.int .i64 8,intsD [a,b],.bool p.neg,Ab p.abs,Ab p.den]++[.int .i64 qk,intsD ql,.bool qn,Ab qm,Ab qd]))))],[(5,.box [.d (.int .i64 qk),.nl,.d (.bool qn),.d (Ab qm),.d (Ab qd)]),(3,.row 6 (L1.flatMap Fnd.ds) true)]⟩
    |k+1=>⟨[(6,vI .i64 (k+1:Nat)),(5,vC (.ptr 5 0)),(4,vI .i64 1),(3,vC (.sl 3 0 L1.length)),(0,vC (.d (.slice 2 ([.int .i64 8,intsD [a,b],.bool p.neg,Ab p.abs,Ab p.den]++[.int .i64 qk,intsD ql,.bool qn,Ab qm,Ab qd]))))],[(5,.box [.d (.int .i64 qk),.sl 58 0 (k+1),.d (.bool qn),.d (Ab qm),.d (Ab qd)]),(58,.row 1 ((T2 (k+1)).map i64) true),(3,.row 6 (L1.flatMap Fnd.ds) true)]⟩)
   (fun k=>k≤ql.length) (fun k=>ql.length - k) 0 (by simp[An,lk,St.le,vI,vC]) (by omega) ?_
  rintro k hk'
  by_cases h:k<ql.length
  ·have es:=sS2 k h;have el:=sL2 k hk';have hg:(ql.drop k).map i64= .int .i64 ql[k]::(ql.drop (k+1)).map i64:=by rw[AD h];rfl
   by_cases c1:ql[k]=b
   ·rw[if_pos c1]at es
    cases k with
    |zero=>
     simp -implicitDefEqProofs[jJ,-natCast_add,-natCast_mul,h,c1,i64];exact⟨1,by simp[An,lk,es,s02,i64],by omega,by omega⟩
    |succ k=>
     simp -implicitDefEqProofs[jJ,-natCast_add,-natCast_mul,h,c1,i64];exact⟨by omega,⟨by omega,by omega⟩,by omega,k+2,by simp[An,lk,es,i64],by omega,by omega⟩
   ·rw[if_neg c1]at es
    cases k with
    |zero=>
     simp -implicitDefEqProofs[jJ,-natCast_add,-natCast_mul,h,c1,i64];exact⟨1,by simp[An,lk,es,s02,i64],by omega,by omega⟩
    |succ k=>
     simp -implicitDefEqProofs[jJ,-natCast_add,-natCast_mul,h,c1,i64];exact⟨by omega,⟨by omega,by omega⟩,by omega,k+2,by simp[An,lk,es,i64],by omega,by omega⟩
  ·obtain⟨k,rfl⟩: ∃m,k=m+1:=⟨k - 1,by omega⟩
   have e9:k+1=ql.length:=by omega
   have el:=sL2 (k+1) (by omega)
   rw[←e9]at k2
   simp -implicitDefEqProofs[jJ,-natCast_add,-natCast_mul,h];refine .inr (.inr (.inr (.inr (.inl (.inr (.inr (.inr ⟨rfl,[58],3,L1.length,6,_,63,_,_,_,_,rfl,by decide,?_,?_,rfl,k2,?_⟩)))))))
   ·simp -implicitDefEqProofs[jJ,-natCast_add,-natCast_mul,lk]
   ·simp -implicitDefEqProofs[jJ,-natCast_add,-natCast_mul,U.toA,toD,el];exact⟨AI (by simp[el]),rfl⟩
   simp -implicitDefEqProofs[jJ,-natCast_add,-natCast_mul,el];exact⟨2,by simp[An,lk],by omega,by omega⟩
 |2,_=>simp -implicitDefEqProofs[jJ,-natCast_add,-natCast_mul]
end Go.Va
namespace Go.Va
open Go.Proofs
theorem jgZ{sg:Bool}{c:UInt8}(h:cls sg c):97≤(D7 sg c).toNat∧(D7 sg c).toNat<123:=by
 unfold D7 cls at*;cases sg with
 |true=>simpa using h
 |false=>
  simp only[Bool.false_eq_true,if_false]at h ⊢;rw[UInt8.toNat_add];have:(32:UInt8).toNat=32:=rfl;omega
theorem NX{sg:Bool}{ls:List UInt8}(h: ∀c∈ls,cls sg c): ∀c∈ls.map (D7 sg),97≤c.toNat∧c.toNat<123:=fun c hc=>by
 obtain⟨d,hd,rfl⟩:=jzk.1 hc
 exact jgZ (h d hd)
theorem Zm{sg:Bool}{p:Pat}(ht:EI sg p=true):(1≤p.kind∧p.kind≤8)∧(sg=true→p.kind=2∨p.kind=3∨p.kind=4∨p.kind=7):=by
 unfold EI at ht;rw[Ax]at ht;have ht:=ht.2;split at ht
 ·rename_i h
  simp only[Ax,Bool.not_eq_true']at ht;exact⟨by omega,fun e=>by rw[e]at ht;cases ht.1⟩
 split at ht
 ·rename_i h
  simp only[Ax,Bool.not_eq_true']at ht;exact⟨by omega,fun e=>by rw[e]at ht;cases ht.1⟩
 split at ht
 ·rename_i h
  simp only[Ax,Bool.not_eq_true']at ht;exact⟨by omega,fun e=>by rw[e]at ht;cases ht.1⟩
 split at ht
 ·rename_i h
  simp only[Ax,Bool.not_eq_true']at ht;exact⟨by omega,fun e=>by rw[e]at ht;cases ht.1⟩
 split at ht
 ·rename_i h
  exact⟨by omega,fun _=>by omega⟩
 ·simp only[Ax,Bool.or_eq_true,decide_eq_true_eq]at ht;exact⟨by omega,fun _=>by omega⟩
theorem jbU{sg:Bool}{v:Int×Int}(h:Bt sg v):CO sg v<2000:=by
 unfold Bt at h;unfold CO;cases sg<;>simp only[Bool.false_eq_true,if_false,if_true]at h ⊢ <;>omega
theorem jdV{sg:Bool}{r:Rul}(hr:r.Good)(hR:Ft sg r=true)(hk:(r.guards.all fun P=>decide (-1000≤P.kind)&&decide (P.kind≤1000))=true):(C9 sg r).Fit:=by
 unfold Ft at hR;simp only[Ax]at hR;obtain⟨⟨⟨⟨r1,r2⟩,r3⟩,r4⟩,r5⟩:=hR;rw[jzy]at r1 r2 r3 hk;have inC: ∀P:Pat,HR sg r P=true→ ∀c∈P.letters,cls sg c:=fun P hP c hc=>by
  unfold HR at hP;have:=jzy.1 hP c hc;simp only[Ax,decide_eq_true_eq]at this;exact this.1
 refine⟨fun q hq=> ?_,fun q hq f hf v hv=> ?_,fun q hq=> ?_,fun q hq=> ?_,?_⟩
 ·obtain⟨p,hp,rfl⟩:=jzk.1 hq
  have ht:=r1 p hp;have hk:=Zm ht;refine⟨NX (Kp ht),?_,hk.1,hk.2⟩
  show(p.letters.map _).length≤1000
  rw[List.length_map]
  exact Nat.le_trans (hr.fit p hp).2 (by omega)
 ·obtain⟨p,hp,rfl⟩:=jzk.1 hq
  have ht:=r1 p hp;obtain⟨a,ha,rfl⟩:=(MY ht hf v).1 hv;obtain⟨e1,e2⟩:=Qh ht hf a ha
  constructor
  ·show(vals sg a).length≤(p.letters.map _).length
   rw[←e1]
   simp[vals]
  ·intro x hx;obtain⟨s,hs,rfl⟩:=jzk.1 hx;exact⟨Sr (e2 s hs),jbU (e2 s hs)⟩
 ·obtain⟨p,hp,rfl⟩:=jzk.1 hq
  have hg:=hr.hc p hp;refine⟨NX (inC p (r3 p hp)),?_,hg.2.1,hg.2.2⟩
  show(p.letters.map _).length≤1000
  rw[List.length_map]
  exact hg.1.2.1
 ·obtain⟨p,hp,rfl⟩:=jzk.1 hq
  have hg:=hr.hg p hp;have hk:=hk p hp;simp only[Ax,decide_eq_true_eq]at hk;refine⟨NX (inC p (r2 p hp)),?_,hk.1,hk.2⟩
  show(p.letters.map _).length≤1000
  rw[List.length_map]
  exact Nat.le_trans hg.2 (by omega)
 ·have h1:=hr.lp;have h2:=hr.lc;have h3:=hr.lg;unfold C9;simp only[List.length_map];omega
theorem ZN: ∀n:Fin 29,((AJ n.val).guards.all fun P=>decide (-1000≤P.kind)&&decide (P.kind≤1000))=true:=by decide+kernel
theorem MP{n:Nat}(h4:n≠4)(h9:n≠9):(refN n).Fit:=by
 obtain⟨t1,t2⟩:=Li n h4 h9
 rw[t2]
 refine jdV (HL n) t1 ?_;by_cases h:n<29
 ·exact ZN ⟨n,h⟩
 ·rw[IK n (by omega)]
  rfl
theorem PS{rr:RRul}(hr:rr.Fit){nl:List Fct}(hn: ∀f∈nl,f.Rt): ∀(k i:Nat) (n:Nmz),(BC rr nl k i n).length≤200^k*1000
 |0,i,n=>by
  rw[BC]
  unfold DG;have:=hr.lens;split
  ·simp;omega
  ·simp
 |k+1,i,n=>by
  rw[BC]
  split
  ·rename_i q f h1 h2
   have h3:=SW q f (hn f (Bv h2)) (hr.frm q (Bv h1)).2.2.1;have h4:=E3 (f:=fun v=>if (Be q.letters v n).2 then BC rr nl k (i+1) (Be q.letters v n).1 else []) (m:=200^k*1000) (l:=C6 q f) fun v _=>by
    split
    ·exact PS hr hn k (i+1) _
    ·simp
   refine Nat.le_trans h4 (Nat.le_trans (Bl _ h3) ?_);rw[Nat.pow_succ];generalize 200^k=E;omega
  ·simp
end Go.Va
