/- a part of the proof -/
import Derived.Test.YtplacedebenpaaaGreatDoorEbh
import Derived.Test.YtplacedebenpaaaGreatDoorEbk
set_option linter.all false
set_option maxHeartbeats 4000000
set_option maxRecDepth 10000
namespace Go.Va
open _root_.List renaming flatMap_append → aD, length_cons → aG, mem_flatMap → aH, length_map → aI, length_nil → aJ, mem_of_mem_take → aL, map_cons → aM, length_append → aN, flatMap_cons → aO, map_append → aP
open Int renaming natCast_add → qA, natCast_mul → qB, natCast_emod → qC, natCast_ediv → qD, natCast_pow → qE
open List renaming reduceReplicate → qF
open Go.Proofs Go.Proofs.Tryz
def jsP:List (List Nat):=(Ah [0,1,3,0,8,24,63,0,128,384,0,1024,3072,8191,16383,32767])
@[simp]def jqy:List Seg:=[.any [] [] (Aq [[5],[20],[21],[5],[23],[24],[22,25],[5],[27],[28],[5],[30],[31]]),.one,.one,.one]
def UH(l:List (List Int)):D:= .slice l.length (l.map AT)
@[simp]theorem lenC_iis(l:List (List Int)):lenC (.d (UH l))=some l.length:=rfl
@[simp]theorem flat_iis(l:List (List Int)):D.flat (UH l)=false:=rfl
@[simp]theorem jCA(h:List (Nat×Blk))(i:Int)(l:List (List Int)):idxSl h 1 i (.d (UH l))=if 0<=i/\i<l.length then some (.d (.ref ((l.drop i.toNat).map AT))) else none:=by
 unfold UH idxSl;simp[List.map_drop]
theorem jrq(f:Fct)(v:f.Rt):CallsF prog 300 [.agg f.ds] (.u (.c (.d (UH (linesR f))))):=by
 obtain⟨p,i,g,x⟩:=v.parts;obtain⟨k,l,n,m,d⟩:=f;simp only at p i g;clear v x;by_cases r:k=2
 ·subst r;obtain⟨a,b,c,e,rfl⟩:=KQ (by rw[i];rfl:l.length=4);have j:=SW a b (g a O1) (g b O1);have o:=SW c e (g c O1) (g e O1);have h:linesR ⟨2,[a,b,c,e],n,m,d⟩=[[atomN a b,atomN c e],[atomN c e,atomN a b]]:=rfl;rw[h];clear p i g h;generalize atomN a b=s at*;generalize atomN c e=t at*;simp only[Fct.ds];refine oB func300 ?_;refine AA (Ah [0,1,3,0,8,24,63,0,128,384,0,1024,3072,8191,16383,32767]) [.any [] [] (Aq [[3],[15],[16],[3],[18],[19],[17,20],[3],[22],[23],[3],[25],[26]]),.one,.one,.one] O5 ?_;refine rK ?_;refine aK j ?_;refine aB o ?_;rfl
 by_cases q:k=1
 ·subst q;obtain⟨a,b,c,rfl⟩:=RA (by rw[i];rfl:l.length=3);have j:=SW a b (g a O1) (g b O1);have o:=SW a c (g a O1) (g c O1);have w:=SW b c (g b O1) (g c O1);have h:linesR ⟨1,[a,b,c],n,m,d⟩=[[atomN a b,atomN a c],[atomN a c,atomN a b],[atomN a b,atomN b c],[atomN b c,atomN a b],[atomN a c,atomN b c],[atomN b c,atomN a c]]:=rfl;rw[h];clear p i g h;generalize atomN a b=s at*;generalize atomN a c=t at*;generalize atomN b c=u at*;simp only[Fct.ds];refine oB func300 ?_;refine AA (Ah [0,1,3,0,8,24,63,0,128,384,0,1024,3072,8191,0,16384,49152,0,131072,393216,1048575,2097151,4194303,8388607]) [.any [] [] (Aq [[3],[38],[39],[3],[41],[42],[40,43],[3],[45],[46],[3],[48],[49],[47,50],[3],[52],[53],[3],[55],[56]]),.one,.one,.one,.one] O5 ?_;refine rK ?_;refine aK j ?_;refine aK o ?_;refine aB w ?_;rfl
 ·have h:linesR ⟨k,l,n,m,d⟩=[]:=by unfold linesR;rw[if_neg r,if_neg q]
  rw[h];simp only[Fct.ds];refine cO func300 rfl ?_;simp -implicitDefEqProofs[jJ,-qA,-qB,-qC,-qD,-qE,r,q,UH]
theorem jur(f:Fct)(I:f.Rt)(k:Int)(J:k=2\/k=3\/k=4\/k=7):CallsF prog 200 [.agg f.ds,.c (.int .i64 k)] (.u (.c (.d (UH (Rz f k))))):=by
 by_cases x:k=2
 ·subst x;have q:=jrq f I;rw[show Rz f 2=linesR f from rfl];generalize linesR f=L at*;simp only[Fct.ds]at*;refine oB func200 ?_;refine Ac q ?_;exact kB
 obtain⟨H,z,g,N⟩:=I.parts;obtain⟨y,l,n,m,d⟩:=f;simp only at H z g;clear I N;by_cases w:y=k
 ·subst w;by_cases E:y=7
  ·subst E;obtain⟨a,b,c,e,i,j,o,p,rfl⟩:=VH (by rw[z];rfl:l.length=8);have F:=SW a b (g a O1) (g b O1);have G:=SW c e (g c O1) (g e O1);have K:=SW i j (g i O1) (g j O1);have M:=SW o p (g o O1) (g p O1);have r:Rz ⟨7,[a,b,c,e,i,j,o,p],n,m,d⟩ 7=[[atomN a b,atomN c e,atomN i j,atomN o p],[atomN a b,atomN i j,atomN c e,atomN o p],[atomN o p,atomN c e,atomN i j,atomN a b],[atomN o p,atomN i j,atomN c e,atomN a b],[atomN c e,atomN a b,atomN o p,atomN i j],[atomN c e,atomN o p,atomN a b,atomN i j],[atomN i j,atomN a b,atomN o p,atomN c e],[atomN i j,atomN o p,atomN a b,atomN c e]]:=rfl;rw[r];clear H z g r;generalize atomN a b=s at*;generalize atomN c e=t at*;generalize atomN i j=u at*;generalize atomN o p=v at*;simp only[Fct.ds];refine oB func200 ?_;refine AA jsP jqy O5 ?_;refine rK ?_;refine aK F ?_;refine aB G ?_;refine AA (Ah [0,1,3,0,8,24,63,0,128,384,0,1024,3072,8191,16383,32767]) [.any [] [] (Aq [[5],[43],[44],[5],[46],[47],[45,48],[5],[50],[51],[5],[53],[54]]),.one,.one,.one] O5 ?_;refine rK ?_;refine aK K ?_;refine aB M ?_;rfl
  ·obtain⟨a,b,c,e,rfl⟩:=KQ (by rw[z];rcases J with h|h|h|h<;>first|exact absurd h x|exact absurd h E|(rw[h];rfl):l.length=4);have F:=SW a b (g a O1) (g b O1);have G:=SW c e (g c O1) (g e O1);have r:Rz ⟨y,[a,b,c,e],n,m,d⟩ y=[[atomN a b,atomN c e],[atomN c e,atomN a b]]:=by
    unfold Rz;rw[if_neg x,if_neg O1];simp[E]
   rw[r];clear H z g r J;generalize atomN a b=s at*;generalize atomN c e=t at*;simp only[Fct.ds];refine cO func200 rfl ?_;refine rB1 x ?_;refine AA jsP jqy O5 ?_;refine rK ?_;refine aK F ?_;refine aB1 E G ?_;rfl
 ·have r:Rz ⟨y,l,n,m,d⟩ k=[]:=by unfold Rz;rw[if_neg x,if_pos w]
  rw[r];simp only[Fct.ds];refine cO func200 rfl ?_;simp -implicitDefEqProofs[jJ,-qA,-qB,-qC,-qD,-qE,x,w,UH]
theorem jwW{f:Fct}(e:f.Rt): ∀l∈linesR f,∃x y,l=[x,y]/\(0<=x/\x<1600)/\0<=y/\y<1600:=by
 have b:=jhE e;have at_lt: ∀i j,0<=atomN (f.args.getD i 0) (f.args.getD j 0)/\atomN (f.args.getD i 0) (f.args.getD j 0)<1600:=λi j=>by
  obtain⟨⟨g,h⟩,k,m⟩:=VF (b i) (b j);rw[Wi];omega
 intro l a;unfold linesR at a;split at a
 ·simp only[jzn,E8,or_false]at a;rcases a with rfl|rfl<;>exact⟨_,_,rfl,at_lt _ _,at_lt _ _⟩
 ·split at a
  ·simp only[jzn,E8,or_false]at a;rcases a with rfl|rfl|rfl|rfl|rfl|rfl<;>exact⟨_,_,rfl,at_lt _ _,at_lt _ _⟩
  ·cases a
theorem jBX(l:List Int):(Vc l).length=4:=rfl
theorem jog(L:List (List Int)):(L.flatMap Vc).length=4*L.length:=by
 induction L with
 |nil=>rfl
 |cons a L b=>rw[aO,aN,b,jBX,aG];omega
theorem jmU(f:Fct):(linesR f).length<=6:=by
 unfold linesR;split
 ·simp
 ·split<;>simp
def turnT(L:List (List Int))(i:Nat):List (List Int):=(L.take i).flatMap Vc
theorem jAd(L:List (List Int)){i:Nat}(h:i<=L.length):(turnT L i).length=4*i:=by
 unfold turnT;rw[jog,A8];omega
theorem jxN(L:List (List Int)){i:Nat}(h:i<L.length):turnT L (i+1)=turnT L i++Vc L[i]:=by
 unfold turnT;rw[Cr h,aD];simp
theorem jt3(L:List (List Int)):turnT L L.length=L.flatMap Vc:=by unfold turnT;rw[BM]
theorem jvY(f:Fct)(j:f.Rt):CallsF prog 199 [.agg f.ds,.c (.int .i64 2)] (.u (.c (.own 1 (ptsR f 2).length ((ptsR f 2).map AT)))):=by
 have q:=jrq f j;have v:=jwW j;have F:=jmU f;rw[jk2];generalize linesR f=L at*;rw[<-jt3];have t:= @jxN L;have g:= @jAd L;have b:turnT L 0=[]:=rfl;generalize turnT L=T at*;simp only[Fct.ds]at*;clear j;refine oB func199 ?_;refine aB q ?_;refine CE [(5,74)] (λi:Nat=>⟨[(7,vI .i64 i),(6,vC (.d (UH L))),(5,vC (.sl 5 0 (T i).length))],[(5,.row 1 ((T i).map AT) true)]⟩)
  (λi=>i<=L.length) (λi=>L.length - i) 0 (by simp[b]) O ?_
 rintro i hi;by_cases h:i<L.length
 ·obtain⟨x,y,e,o,p⟩:=v L[i] (AZ h);have l:(L.drop i).map AT=AT [x,y]::(L.drop (i+1)).map AT:=by rw[BQ h,aM,e]
  have a:=t h;rw[e]at a;have r:Vc [x,y]=[[x/40,x%40,y/40,y%40],[x%40,x/40,y/40,y%40],[x/40,x%40,y%40,y/40],[x%40,x/40,y%40,y/40]]:=rfl;rw[r]at a;have w:x.tdiv 40=x/40:=Int.tdiv_eq_ediv_of_nonneg o.1;have z:x.tmod 40=x%40:=Int.tmod_eq_emod_of_nonneg o.1;have E:y.tdiv 40=y/40:=Int.tdiv_eq_ediv_of_nonneg p.1;have t4:y.tmod 40=y%40:=Int.tmod_eq_emod_of_nonneg p.1;have m:=g hi;refine rB1 h ?_;refine AA (Ah [0,0,3,7,15,31,63,0,0,384,896,1920,3968,8064,127,32767]) [.any [] [] (Aq [[6],[7],[24,25],[26],[27],[28],[29],[6],[7],[31,32],[33],[34],[35],[36],[30]]),.one] O5 ?_;simp -implicitDefEqProofs[jJ,-qA,-qB,-qC,-qD,-qE,h,l,i64,w,z];refine⟨O,?_⟩;refine AA (Ah [0,0,3,7,15,31,63,0,0,384,896,1920,3968,8064,127,32767]) [.any [] [] (Aq [[6],[7],[38,39],[40],[41],[42],[43],[6],[7],[45,46],[47],[48],[49],[50],[44]]),.one] O5 ?_;simp -implicitDefEqProofs[jJ,-qA,-qB,-qC,-qD,-qE,h,l,i64,E,t4];exact⟨O,⟨O,O⟩,O,i+1,⟨⟨rfl,by rw[a];simp⟩,by rw[a,aP];rfl⟩,O,O⟩
 ·have k:i=L.length:=O;subst k;exact kB
theorem jBV(f:Fct)(j:f.Rt)(k:Int)(g:1<=k/\k<=8/\k≠2):CallsF prog 199 [.agg f.ds,.c (.int .i64 k)] (.u (.c (.own 1 (ptsR f k).length ((ptsR f k).map AT)))):=by
 by_cases a:f.kind=k
 ·rw[jbW g.2.2 a];have q:CallsF prog 301 [.agg f.ds] (.u (.c (.d (C1 (varL f (Na f)))))):=by
   obtain⟨A,_,p,r,t,v,y⟩:=jAJ f j O;have e:Na f=A:=by
    unfold Na;split
    ·rename_i h;exact(p h).symm
    ·split
     ·rename_i h;exact(r h).symm
     ·split
      ·rename_i h;exact(t h).symm
      ·exact(v O).symm
   rw[e];exact y
  have z:(varL f (Na f)).length<=1000:=by
   have x:=ZC ((Na f).map (Mb f)) [];have E:(Na f).length<=1000:=by
    have b:f.args.length<=4\/f.kind=7:=by
     rw[j.parts.2.1];unfold arity;split
     ·simp
     ·split
      ·simp
      ·split
       ·rename_i h;exact .inr h
       ·split<;>simp
    unfold Na;split
    ·rename_i h;have b:f.args.length<=4:=b.resolve_right O;have o: ∀n:Fin 5,(AP n.val).length<=1000:=O6;exact o ⟨_,O⟩
    ·split
     ·decide
     ·split
      ·decide+kernel
      ·decide
   unfold varL;simp only[aI,aJ]at x;omega
  generalize varL f (Na f)=V at*;simp only[Fct.ds]at*;subst a;have m:=g.2.2;clear j g;refine cO func199 rfl ?_;refine rB1 m ?_;refine aB q ?_;refine CE [(5,95)] (λi:Nat=>⟨[(13,vI .i64 i),(12,vC (.d (C1 V))),(5,vC (.sl 5 0 i))],[(5,.row 1 (((V.take i).map Fct.args).map AT) true)]⟩)
   (λi=>i<=V.length) (λi=>V.length - i) 0 O1 O ?_
  rintro i hi;by_cases h:i<V.length
  ·have w:=VX h;refine rB2 h w ?_;refine⟨O,⟨O,O⟩,O,i+1,⟨rfl,?_⟩,O,O⟩;rw[Cr (by simpa using h),List.getElem_map];rfl
  ·have l:i=V.length:=O;subst l;exact kB
 ·rw[jb3 g.2.2 a];have m:=g.2.2;simp only[Fct.ds];refine cO func199 rfl ?_;simp -implicitDefEqProofs[jJ,-qA,-qB,-qC,-qD,-qE,m,a]
def jpO:List (List Nat):=(Ah [0,1,0,7,15,31,0,64,0,448,960,0,4032,8191,0,32767])
@[simp]def jqe:List Seg:=[.any [] [14] [⟨0,[6],[14],[14],[]⟩,⟨0,[41],[14],[14],[]⟩,⟨0,[13],[14],[14],[]⟩,⟨0,[42,43],[14],[14],[]⟩,⟨0,[44],[14],[14],[]⟩,⟨0,[45],[14],[14],[]⟩,⟨0,[6],[14],[14],[]⟩,⟨0,[47],[14],[14],[]⟩,⟨0,[13],[14],[14],[]⟩,⟨0,[48,49],[14],[14],[]⟩,⟨0,[50],[14],[14],[]⟩,⟨0,[9],[14],[14],[]⟩,⟨0,[51,52],[14],[14],[]⟩,⟨0,[46,53],[14],[14],[]⟩,⟨1,[],[],[],[]⟩],.one]
theorem js5{P:Fct->Prop}{G:List Grd->Prop}{F:Fct}{g:List Grd}(f:P F)(b:G g): ∀{l:List Fnd},(∀x∈l,P x.fact/\G x.grds)-> ∀x∈LW F g l,P x.fact/\G x.grds
 |[],_,x,h=>by
  rw[LW,List.mem_singleton]at h;subst h;exact⟨f,b⟩
 |y::l,e,x,h=>by
  have i:=e y O1;have a:=λz j=>e z (List.mem_cons_of_mem y j);unfold LW at h;split at h
  ·rcases jzn.1 h with rfl|h
   ·exact i
   ·exact js5 f b a x h
  ·split at h
   ·split at h
    ·rcases jzn.1 h with rfl|h
     ·exact⟨i.1,b⟩
     ·exact a x h
    ·exact e x h
   ·rcases jzn.1 h with rfl|h
    ·exact⟨f,b⟩
    ·exact e x h
theorem jr4(F:Fct)(g:List Grd): ∀l:List Fnd,(LW F g l).length<=l.length+1
 |[]=>by simp[LW]
 |y::l=>by
  have a:=jr4 F g l;unfold LW;split
  ·simp;omega
  ·split
   ·split<;>simp
   ·simp
theorem jqW{P:Fct->Prop}{G:List Grd->Prop}{nl:List Fct}{f:Fct}{g:List Grd}(b:P (normF f))(e:G g){l:List Fnd}(a: ∀x∈l,P x.fact/\G x.grds): ∀x∈noteR nl l f g,P x.fact/\G x.grds:=by
 unfold noteR;split
 ·exact a
 ·exact js5 b e a
theorem jo2(nl:List Fct)(l:List Fnd)(f:Fct)(g:List Grd):(noteR nl l f g).length<=l.length+1:=by
 unfold noteR;split
 ·omega
 ·exact jr4 _ _ _
theorem jgB(nl:List Fct)(l:List Fnd)(A B:List Fo):Dj nl l (A++B)=Dj nl (Dj nl l A) B:=by
 unfold Dj;rw[List.foldl_append]
theorem jdm{P:Fct->Prop}{G:List Grd->Prop}{nl:List Fct}: ∀(Q:List Fo) {l:List Fnd},(∀x∈l,P x.fact/\G x.grds)->(∀x∈Q,P (normF x.1)/\G x.2)-> ∀x∈Dj nl l Q,P x.fact/\G x.grds
 |[],l,a,_=>a
 |y::Q,l,a,b=>by
  have e:=b y O1;exact jdm Q (jqW e.1 e.2 a) λx f=>b x (by simp[f])
theorem je0(nl:List Fct): ∀(Q:List Fo) (l:List Fnd),(Dj nl l Q).length<=l.length+Q.length
 |[],l=>by simp[Dj]
 |y::Q,l=>by
  have a:=je0 nl Q (noteR nl l y.1 y.2);have b:=jo2 nl l y.1 y.2;show(Dj nl (noteR nl l y.1 y.2) Q).length<=_;simp only[aG];omega
theorem jlr(n:Nmz): ∀(e:List RPat) (out:List Grd),(∀q∈e,q.letters.length<=1000/\ -1000<=q.kind/\q.kind<=1000)->(∀g∈out,g.In)->(∀g∈(P3 e n out).1,g.In)/\(P3 e n out).1.length<=out.length+e.length
 |[],out,_,i=>⟨i,by simp[P3]⟩
 |q::e,out,h,i=>by
  obtain⟨E,x,y⟩:=h q O1;rw[P3];cases t:X0 (argsR q n)with
  |none=>simp
  |some a=>
   have l:a.length=(argsR q n).length:=by
    have k: ∀(m:Nat) (b c:List Int) (j:Nat),RO m b j=some c->c.length=b.length:=by
     intro m
     induction m with
     |zero=>intro b c j h;cases h;rfl
     |succ m w=>
      intro b c j h;rw[RO]at h;cases hi:Pz j b j 0 with
      |none=>rw[hi]at h;cases h
      |some d=>
       rw[hi]at h;rw[w d c (j+1) h,jqI _ _ _ _ _ hi]
    exact k _ _ _ _ t
   have o:=joU q n;have f:(Grd.mk q.kind a).In:=⟨by unfold Grd.Short;simp only;omega,x,y⟩
   obtain⟨v,z⟩:=jlr n e (Ka out ⟨q.kind,a⟩) (λp r=>h p (by simp[r])) λg hg=>by
    rcases (jb4 _ _ _).1 hg with rfl|hg
    ·exact f
    ·exact i g hg
   have:=jnd ⟨q.kind,a⟩ out;refine⟨v,?_⟩;simp only[aG];omega
structure RRul.Fit (rr:RRul):Prop where
 frm: ∀q∈rr.frm,(∀c∈q.letters,97<=c.toNat/\c.toNat<123)/\q.letters.length<=1000/\(1<=q.kind/\q.kind<=8)/\(q.seg=true->q.kind=2\/q.kind=3\/q.kind=4\/q.kind=7)
 rdg: ∀q∈rr.frm,∀f:Fct,f.Rt-> ∀v∈R6 q f,v.length<=q.letters.length/\ ∀x∈v,0<=x/\x<2000
 to: ∀q∈rr.to,(∀c∈q.letters,97<=c.toNat/\c.toNat<123)/\q.letters.length<=1000/\0<=q.num/\q.num<=1000
 gua: ∀q∈rr.guards,(∀c∈q.letters,97<=c.toNat/\c.toNat<123)/\q.letters.length<=1000/\ -1000<=q.kind/\q.kind<=1000
 lens:rr.frm.length<=1000/\rr.to.length<=1000/\rr.guards.length<=100
def Qa(a:RRul)(n:Nmz)(G:List Grd)(j:Nat):List Fo:=(a.to.take j).map λq=>(UZ n q,G)
theorem jB7(a:RRul)(n:Nmz)(G:List Grd){j:Nat}(h:j<a.to.length):Qa a n G (j+1)=Qa a n G j++[(UZ n a.to[j],G)]:=by
 unfold Qa;rw[Cr h,aP];rfl
theorem jvW(q:RPat)(n:Nmz)(e:n.Ok)(b: ∀c∈q.letters,97<=c.toNat/\c.toNat<123)(a:q.letters.length<=1000):
  CallsF prog 198 [.agg q.ds,.agg n.ds] (.u (.c (.d (AT (argsR q n))))):=by
 have k:=(joX q n e b a).dat;simp only[R.dat,RU.dat,RC.dat]at k;rw[Ba O1]at k;exact k
theorem jwY(a:RRul)(g:a.Fit)(nl:List Fct)(M: ∀f∈nl,f.Rt)(N:nl.length<=1000)(l:List Fnd)(n:Nmz)(W:n.Ok)(hl: ∀x∈l,x.fact.Rt/\GK x.grds)(K:l.length+(Tm a n).length<=100000000000)(S: ∀x∈Tm a n,x.1.Mild/\(normF x.1).Rt):
  CallsA prog 120 6 l.length (l.flatMap Fnd.ds) [.agg a.ds,.c (C1 nl),.c (.int .i64 nl.length),.agg n.ds] (Dj nl l (Tm a n)).length ((Dj nl l (Tm a n)).flatMap Fnd.ds):=by
 have v:=jAK a.guards n W g.gua (by have:=g.lens;omega);obtain⟨Q,Y⟩:=jlr n a.guards [] (λq P=>(g.gua q P).2) O1;have J:=g.lens;simp only[aJ,Nat.zero_add]at Y;cases b:(P3 a.guards n []).2 with
 |false=>
  have e:Tm a n=[]:=by unfold Tm;rw[b];rfl
  rw[e];rw[b]at v;generalize (P3 a.guards n []).1=G at*;simp only[RRul.ds];refine Rc (T:=tb) Ak mixed func120 rfl O2 (Al rfl) rfl ?_;unfold St.initA;simp -implicitDefEqProofs[jJ,-qA,-qB,-qF,BK,-DZ,Oj];refine aF v ?_;refine AV (λi:Nat=>⟨[(13,vI .i64 i),(12,vB false),(11,vC (.d (Dd G))),(6,vC (.ptr 6 0)),(0,vC (.sl 2000000 0 l.length))],[(6,.box [.d (.str (bs a.name)),.d (CQ a.frm),.d (CQ a.to),.d (CQ a.guards)]),(2000000,.row 6 (l.flatMap Fnd.ds) true)]⟩) (λi=>i=0) (λi=>1) 0 (by simp[AW,lk,St.le,vI,vC,vB]) rfl ?_;rintro i rfl;by_cases h:0<a.to.length
  ·simp -implicitDefEqProofs[jJ,-qA,-qB,-qF,h,Sz,Dj]
  ·simp -implicitDefEqProofs[jJ,-qA,-qB,-qF,h,Sz,Dj]
 |true=>
  have e:Tm a n=Qa a n (P3 a.guards n []).1 a.to.length:=by unfold Tm Qa;rw[b,BM];rfl
  rw[e]at S K ⊢;rw[b]at v;generalize (P3 a.guards n []).1=G at*;simp only[RRul.ds];refine Rc (T:=tb) Ak mixed func120 rfl O2 (Al rfl) rfl ?_;unfold St.initA;simp -implicitDefEqProofs[jJ,-qA,-qB,-qF,BK,-DZ,Oj];refine aF v ?_;have y:Dj nl l (Qa a n G 0)=l:=rfl;have F: ∀j (h:j<a.to.length),Dj nl l (Qa a n G (j+1))=noteR nl (Dj nl l (Qa a n G j)) (UZ n a.to[j]) G:=λj h=>by
   rw[jB7 a n G h,jgB];rfl
  have m: ∀j (h:j<a.to.length),(UZ n a.to[j]).Mild/\(normF (UZ n a.to[j])).Rt:=λj h=>S (UZ n a.to[j],G) (by
   unfold Qa;rw[BM];exact jzk.2 ⟨a.to[j],AZ h,rfl⟩)
  have z: ∀j,j<=a.to.length-> ∀x∈Dj nl l (Qa a n G j),x.fact.Rt/\GK x.grds:=λj h=>jdm _ hl λx X=>by
   unfold Qa at X;obtain⟨q,P,rfl⟩:=jzk.1 X;obtain⟨t,ht,rfl⟩:=List.mem_iff_getElem.1 (aL P);exact⟨(m t ht).2,Q⟩
  have E: ∀j,j<=a.to.length->(Dj nl l (Qa a n G j)).length<=100000000000:=λj h=>by
   have h1:=je0 nl (Qa a n G j) l;have h2:(Qa a n G j).length<=(Qa a n G a.to.length).length:=by unfold Qa;simp;omega
   omega
  generalize Z:(λj=>Dj nl l (Qa a n G j))=L at*;have H: ∀j,Dj nl l (Qa a n G j)=L j:=λj=>congrFun Z j;simp only[H]at*;have p:=λj (h:j<a.to.length)=>jvW a.to[j] n W (g.to _ (AZ h)).1 (g.to _ (AZ h)).2.1;have k:=λj (h:j<a.to.length)=>jib nl (L j) (UZ n a.to[j]) G M N (z j O) (E j O) (m j h).1 (m j h).2 Q O;have kO:=λj (h:j<a.to.length)=>jcg a.to[j].num.toNat (by have:=(g.to _ (AZ h)).2.2;omega);simp only[Fct.ds,RPat.ds]at p k;refine CE [(2000000,70)] (λj:Nat=>⟨[(13,vI .i64 j),(12,vB true),(11,vC (.d (Dd G))),(9,vC (.ptr 9 0)),(6,vC (.ptr 6 0)),(2,vC (.d (C1 nl))),(0,vC (.sl 2000000 0 (L j).length))],
   [(9,.box n.cs),(6,.box [.d (.str (bs a.name)),.d (CQ a.frm),.d (CQ a.to),.d (CQ a.guards)]),(2000000,.row 6 ((L j).flatMap Fnd.ds) true)]⟩)
   (λj=>j<=a.to.length) (λj=>a.to.length - j) 0 (by simp[AW,lk,St.le,vI,vC,vB,y]) O ?_
  rintro j hj;by_cases h:j<a.to.length
  ·have w:=jjy h;have p:=p j h;have k:=k j h;have kO:=kO j h;have o:=(g.to _ (AZ h)).2.2;rw[<-F j h]at k;by_cases r:a.to[j].kind=9
   ·refine rF1 h ?_;refine AA jpO jqe O5 ?_;simp -implicitDefEqProofs[jJ,-qA,-qB,-qF,h,w,-DZ,Oj];refine Ae p ?_;rw[Int.toNat_of_nonneg o.1]at kO;simp only[UZ,r,if_true]at k;simp -implicitDefEqProofs[jJ,-qA,-qB,-qF,r,h,w];refine aF kO ?_;refine .inr (.inr (.inr (.inr (.inr ⟨rfl,2000000,(L j).length,6,_,70,_,_,_,_,rfl,by simp[lk],?_,rfl,k,?_⟩))))
    ·rfl
    refine rF ?_;exact⟨O,j+1,⟨⟨rfl,rfl⟩,rfl⟩,O,O⟩
   ·simp only[UZ,r,if_false]at k;refine rF1 h ?_;refine AA jpO jqe O5 ?_;simp -implicitDefEqProofs[jJ,-qA,-qB,-qF,h,w,-DZ,Oj];refine Ae p ?_;refine rF1 r ?_;refine .inr (.inr (.inr (.inr (.inr ⟨rfl,2000000,(L j).length,6,_,70,_,_,_,_,rfl,by simp[lk],rfl,rfl,k,?_⟩))));refine rF ?_;exact⟨O,j+1,⟨⟨rfl,rfl⟩,rfl⟩,O,O⟩
  ·have I:j=a.to.length:=O;subst I;simp -implicitDefEqProofs[jJ,-qA,-qB,-qF,Sz]
def jnH:List (List Nat):=(Ah [0,0,3,7,0,16,63,127])
@[simp]def jrK:List Seg:=[.any [] [] (Aq [[2],[3],[77,78],[79],[15],[81]]),.one,.one]
def jgb:List (List Nat):=(Ah [0,1,0,0,12,28,0,127,255,511,511,0,3071,8191])
@[simp]def jgD:List Seg:=[.any [] [18] [⟨0,[15],[18],[18],[]⟩,⟨0,[100],[18],[18],[]⟩,⟨0,[16],[18],[18],[]⟩,⟨0,[17],[18],[18],[]⟩,⟨0,[102,103],[18],[18],[]⟩,⟨0,[104],[18],[18],[]⟩,⟨0,[9],[18],[18],[]⟩,⟨0,[101,105,106],[18],[18],[]⟩,⟨0,[107],[18],[18],[]⟩,⟨0,[99],[18],[18],[]⟩,⟨0,[99],[18],[18],[]⟩,⟨1,[],[],[],[]⟩,⟨2,[18,108],[],[],[18]⟩],.one]
theorem jxZ(f:Fct)(b:f.Rt)(k:Int)(e:1<=k/\k<=8):CallsF prog 199 [.agg f.ds,.c (.int .i64 k)] (.u (.c (.d (UH (ptsR f k))))):=by
 have a:CallsF prog 199 [.agg f.ds,.c (.int .i64 k)] (.u (.c (.own 1 (ptsR f k).length ((ptsR f k).map AT)))):=by
  by_cases g:k=2
  ·subst g;exact jvY f b
  ·exact jBV f b k ⟨e.1,e.2,g⟩
 have k:=a.dat;simp only[R.dat,RU.dat,RC.dat]at k;rw[Ba O1]at k;exact k
theorem jwS(f:Fct)(k:Int):(Rz f k).length<=8:=by
 unfold Rz;split
 ·exact Nat.le_trans (jmU f) O
 ·split
  ·simp
  ·simp only;split<;>simp
theorem jwm(f:Fct)(j:f.Rt)(k:Int)(m:1<=k/\k<=8):(ptsR f k).length<=200:=by
 by_cases e:k=2
 ·subst e;rw[jk2,jog];have:=jmU f;omega
 by_cases b:f.kind=k
 ·rw[jbW e b,aI];have i:=ZC ((Na f).map (Mb f)) [];have l:(Na f).length<=200:=by
   have a:f.args.length<=4\/f.kind=7:=by
    rw[j.parts.2.1];unfold arity;split
    ·simp
    ·split
     ·simp
     ·split
      ·rename_i h;exact .inr h
      ·split<;>simp
   unfold Na;split
   ·rename_i h;have a:f.args.length<=4:=a.resolve_right O;have g: ∀n:Fin 5,(AP n.val).length<=200:=O6;exact g ⟨_,O⟩
   ·split
    ·decide
    ·split
     ·decide+kernel
     ·decide
  unfold varL;simp only[aI,aJ]at i;omega
 ·rw[jb3 e b];simp
theorem jqA(q:RPat)(f:Fct)(a:f.Rt)(b:1<=q.kind/\q.kind<=8):(R6 q f).length<=200:=by
 unfold R6;split
 ·exact Nat.le_trans (jwS f q.kind) O
 ·exact jwm f a q.kind b
def sayT(a:RRul)(nl:List Fct)(k i:Nat)(q:RPat)(n:Nmz)(v:List Int):List Fo:=if (H3 q.letters v n).2 then Li a nl k (i+1) (H3 q.letters v n).1 else []
theorem jpX(a:RRul)(hr:a.Fit)(nl:List Fct)(y: ∀f∈nl,f.Rt)(hnn:nl.length<=1000)(Y:nl.length=a.frm.length): ∀(k i:Nat) (l:List Fnd) (n:Nmz),i+k=nl.length->n.Ok->(∀x∈l,x.fact.Rt/\GK x.grds)->
  l.length+(Li a nl k i n).length<=100000000000->(∀x∈Li a nl k i n,(x.1.Mild/\(normF x.1).Rt)/\GK x.2)->
  CallsA prog 120 6 l.length (l.flatMap Fnd.ds) [.agg a.ds,.c (C1 nl),.c (.int .i64 i),.agg n.ds] (Dj nl l (Li a nl k i n)).length ((Dj nl l (Li a nl k i n)).flatMap Fnd.ds)
 |0,i,l,n,hi,Z,hl,w,K=>by
  obtain rfl:i=nl.length:=O;exact jwY a hr nl y hnn l n Z hl w λx r=>(K x r).1
 |k+1,i,l,n,hi,Z,hl,w,K=>by
  have g:i<nl.length:=O;have o:i<a.frm.length:=O;have hf:=y _ (AZ g);obtain⟨c1,c2,c3,c4⟩:=hr.frm _ (AZ o);have c5:=hr.rdg _ (AZ o) _ hf;have eS:Li a nl (k+1) i n=(R6 a.frm[i] nl[i]).flatMap (sayT a nl k i a.frm[i] n):=by
   rw[Li,AD g,AD o];rfl
  rw[eS]at w K ⊢;clear eS;have kP:=jxZ nl[i] hf a.frm[i].kind c3;have kS:=λh=>jur nl[i] hf a.frm[i].kind (c4 h);have P:R6 a.frm[i] nl[i]=if a.frm[i].seg then Rz nl[i] a.frm[i].kind else ptsR nl[i] a.frm[i].kind:=rfl
  have hRl:=jqA a.frm[i] nl[i] hf c3;generalize hRR:R6 a.frm[i] nl[i]=R at*;have p:=λj (h:j<R.length)=>jxc a.frm[i].letters R[j] n Z (c5 _ (AZ h)).1 c1 (c5 _ (AZ h)).2 c2;have mOk:=λj (h:j<R.length)=>jrg a.frm[i].letters R[j] n Z (c5 _ (AZ h)).2;have S: ∀j (h:j<R.length),sayT a nl k i a.frm[i] n R[j]=if (H3 a.frm[i].letters R[j] n).2 then Li a nl k (i+1) (H3 a.frm[i].letters R[j] n).1 else []:=λj h=>rfl
  generalize sayT a nl k i a.frm[i] n=T at*;have H:Dj nl l ((R.take 0).flatMap T)=l:=rfl;have t: ∀j (h:j<R.length),Dj nl l ((R.take (j+1)).flatMap T)=Dj nl (Dj nl l ((R.take j).flatMap T)) (T R[j]):=λj h=>by
   rw[Cr h,aD,jgB];simp
  have N: ∀j,∀x∈(R.take j).flatMap T,x∈R.flatMap T:=λj x r=>by
   obtain⟨v,hv,r⟩:=aH.1 r;exact aH.2 ⟨v,aL hv,r⟩
  have I: ∀j,∀x∈Dj nl l ((R.take j).flatMap T),x.fact.Rt/\GK x.grds:=λj=>jdm _ hl λx r=>⟨(K x (N j x r)).1.2,(K x (N j x r)).2⟩
  have F: ∀j,j<R.length->((R.take j).flatMap T).length+(T (R.getD j [])).length<=(R.flatMap T).length:=λj h=>by
   have e1:R.flatMap T=(R.take j).flatMap T++(T R[j]++(R.drop (j+1)).flatMap T):=by
    conv=>lhs;rw[<-List.take_append_drop j R,BQ h]
    rw[aD,aO]
   have G:R.getD j []=R[j]:=by rw[AL,AD h];rfl
   rw[e1,G];simp only[aN];omega
  have J: ∀j (h:j<R.length),(Dj nl l ((R.take j).flatMap T)).length+(T R[j]).length<=100000000000:=λj h=>by
   have h1:=je0 nl ((R.take j).flatMap T) l;have h2:=F j h;have G:R.getD j []=R[j]:=by rw[AL,AD h];rfl
   rw[G]at h2;omega
  have eQ: ∀j (h:j<R.length),∀x∈T R[j],(x.1.Mild/\(normF x.1).Rt)/\GK x.2:=λj h x r=>K x (aH.2 ⟨_,AZ h,r⟩);have E:Dj nl l (R.flatMap T)=Dj nl l ((R.take R.length).flatMap T):=by rw[BM]
  rw[E];generalize hL:(λj=>Dj nl l ((R.take j).flatMap T))=L at*;have X: ∀j,Dj nl l ((R.take j).flatMap T)=L j:=λj=>congrFun hL j;simp only[X]at H t I J ⊢;have z:=λj (h:j<R.length) (b:(H3 a.frm[i].letters R[j] n).2=true)=>jpX a hr nl y hnn Y k (i+1) (L j) (H3 a.frm[i].letters R[j] n).1 O (mOk j h) (I j) (by
    have:=J j h;rw[S j h,if_pos b]at this;exact this) (by have:=eQ j h;rw[S j h,if_pos b]at this;exact this)
  have Q: ∀j (h:j<R.length) (b:(H3 a.frm[i].letters R[j] n).2=true),Dj nl (L j) (Li a nl k (i+1) (H3 a.frm[i].letters R[j] n).1)=L (j+1):=λj h b=>by
   rw[t j h,S j h,if_pos b]
  have e: ∀j (h:j<R.length) (b:(H3 a.frm[i].letters R[j] n).2=false),L (j+1)=L j:=λj h b=>by
   rw[t j h,S j h,if_neg (by simp[b])];rfl
  clear hl w K N F E eQ J I t hL X Z mOk c5 S hRR y;have G:=VX g;have e3:=jjy o;have hne: ¬(i:Int)=(nl.length:Int):=O;simp only[Fct.ds,RRul.ds]at*;refine Rc (T:=tb) Ak mixed func120 rfl O2 (Al rfl) rfl ?_;unfold St.initA;cases q:a.frm[i].seg with
  |false=>
   rw[q]at P;simp only[Bool.false_eq_true,if_false]at P;rw[<-P]at kP;simp -implicitDefEqProofs[jJ,-qA,-qB,-qF,BK,hne,o,e3,q];refine AA jnH jrK O5 ?_;refine rF2 g G ?_;refine aF kP ?_;refine CE [(2000000,117)] (λj:Nat=>⟨[(17,vI .i64 j),(16,vC (.d (UH R))),(15,vC (.ptr 15 0)),(9,vC (.ptr 9 0)),(6,vC (.ptr 6 0)),(3,vI .i64 i),(2,vC (.d (C1 nl))),(0,vC (.sl 2000000 0 (L j).length))],
    [(15,.box [.d (.int .i64 a.frm[i].kind),.d (.str (bs a.frm[i].letters)),.d (.bool false),.d (.int .i64 a.frm[i].num)]),(9,.box n.cs),(6,.box [.d (.str (bs a.name)),.d (CQ a.frm),.d (CQ a.to),.d (CQ a.guards)]),(2000000,.row 6 ((L j).flatMap Fnd.ds) true)]⟩)
    (λj=>j<=R.length) (λj=>R.length - j) 0 (by simp[AW,lk,St.le,vI,vC,H]) O ?_
   rintro j hj;by_cases h:j<R.length
   ·have p:=p j h;have W:(R.drop j).map AT=AT R[j]::(R.drop (j+1)).map AT:=by rw[BQ h,aM]
    cases b:(H3 a.frm[i].letters R[j] n).2 with
    |true=>
     have z:=z j h b;rw[Q j h b]at z;rw[b]at p;generalize (H3 a.frm[i].letters R[j] n).1=m at*;refine rF1 h ?_;refine AA jgb jgD O5 ?_;simp -implicitDefEqProofs[jJ,-qA,-qB,-qF,h,W,-DZ,Oj];refine aF p ?_;refine⟨O,.inr (.inr (.inr (.inr (.inr ⟨rfl,2000000,(L j).length,6,_,117,_,_,_,_,rfl,by simp[lk],?_,rfl,z,?_⟩))))⟩
     ·simp[U.toA,toD]
     refine rF ?_;exact⟨O,j+1,⟨⟨rfl,rfl⟩,rfl⟩,O,O⟩
    |false=>
     have e:=e j h b;rw[b]at p;generalize (H3 a.frm[i].letters R[j] n).1=m at*;refine rF1 h ?_;refine AA jgb jgD O5 ?_;simp -implicitDefEqProofs[jJ,-qA,-qB,-qF,h,W,-DZ,Oj];refine aF p ?_;exact⟨O,j+1,⟨⟨rfl,by rw[e]⟩,by rw[e]⟩,O,O⟩
   ·have M:j=R.length:=O;subst M;simp -implicitDefEqProofs[jJ,-qA,-qB,-qF,Sz]
  |true=>
   rw[q]at P;simp only[if_true]at P;have kS:=kS q;rw[<-P]at kS;generalize ptsR nl[i] a.frm[i].kind=PP at*;simp -implicitDefEqProofs[jJ,-qA,-qB,-qF,BK,hne,o,e3,q];refine AA jnH jrK O5 ?_;refine rF2 g G ?_;refine aF kP ?_;refine AA (Ah [0,0,3,7,0,16,63,127]) [.any [] [] (Aq [[2],[3],[86,87],[88],[15],[90]]),.one,.one] O5 ?_;refine rF2 g G ?_;refine aF kS ?_;refine CE [(2000000,117)] (λj:Nat=>⟨[(17,vI .i64 j),(16,vC (.d (UH R))),(15,vC (.ptr 15 0)),(9,vC (.ptr 9 0)),(6,vC (.ptr 6 0)),(3,vI .i64 i),(2,vC (.d (C1 nl))),(0,vC (.sl 2000000 0 (L j).length))],
    [(15,.box [.d (.int .i64 a.frm[i].kind),.d (.str (bs a.frm[i].letters)),.d (.bool true),.d (.int .i64 a.frm[i].num)]),(9,.box n.cs),(6,.box [.d (.str (bs a.name)),.d (CQ a.frm),.d (CQ a.to),.d (CQ a.guards)]),(2000000,.row 6 ((L j).flatMap Fnd.ds) true)]⟩)
    (λj=>j<=R.length) (λj=>R.length - j) 0 (by simp[AW,lk,St.le,vI,vC,H]) O ?_
   rintro j hj;by_cases h:j<R.length
   ·have p:=p j h;have W:(R.drop j).map AT=AT R[j]::(R.drop (j+1)).map AT:=by rw[BQ h,aM]
    cases b:(H3 a.frm[i].letters R[j] n).2 with
    |true=>
     have z:=z j h b;rw[Q j h b]at z;rw[b]at p;generalize (H3 a.frm[i].letters R[j] n).1=m at*;refine rF1 h ?_;refine AA jgb jgD O5 ?_;simp -implicitDefEqProofs[jJ,-qA,-qB,-qF,h,W,-DZ,Oj];refine aF p ?_;refine⟨O,.inr (.inr (.inr (.inr (.inr ⟨rfl,2000000,(L j).length,6,_,117,_,_,_,_,rfl,by simp[lk],?_,rfl,z,?_⟩))))⟩
     ·simp[U.toA,toD]
     refine rF ?_;exact⟨O,j+1,⟨⟨rfl,rfl⟩,rfl⟩,O,O⟩
    |false=>
     have e:=e j h b;rw[b]at p;generalize (H3 a.frm[i].letters R[j] n).1=m at*;refine rF1 h ?_;refine AA jgb jgD O5 ?_;simp -implicitDefEqProofs[jJ,-qA,-qB,-qF,h,W,-DZ,Oj];refine aF p ?_;exact⟨O,j+1,⟨⟨rfl,by rw[e]⟩,by rw[e]⟩,O,O⟩
   ·have M:j=R.length:=O;subst M;simp -implicitDefEqProofs[jJ,-qA,-qB,-qF,Sz]
end Go.Va
