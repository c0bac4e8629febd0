/- a part of the proof -/
import Derived.Test.YtkajmpgbnbikiaaGreatDoorMbk
set_option linter.all false
set_option maxHeartbeats 4000000
set_option maxRecDepth 10000
namespace Go.Va
open Int (natCast_add natCast_mul natCast_emod natCast_ediv natCast_pow)
open Go.Proofs
structure Cond3 (n:Nat) (k:Int) (l:List Int):Prop where
 kl:k=1∧l.length=2∨k=2∧l.length=3∨k=3∧l.length=4
 ag: ∀a∈l,0≤a∧a<(n:Int)
def Gm:List Pq→Bool
 |[a,b]=> !(decide (a.x=b.x)&&decide (a.y=b.y))
 |[a,b,c]=>decide (sgnQ ((vec a b).cross (vec a c))≠0)
 |[a,b,c,d]=>decide (sgnQ ((vec a b).cross (vec c d))≠0)
 |_=>true
def Ct(pts:List Pq)(l:List Int):Bool:=Gm (ptsAt pts l)
theorem jhJ(k:Int)(l:List Int)(s:Int)(n:Nat)(h:Cond3 n k l):CallsF Tryz.prog 84 [.agg [.int .i64 k,intsD l,.int .i64 s],.c (.int .i64 n)] (.u (.c (.d (.int .i64 0)))):=by
 have ka:=YP k;have hin: ∀i (h:i<l.length),0≤l[i]∧l[i]<n:=fun i hi=>h.ag _ (AD hi)
 have hA:Kt k=l.length:=by
  unfold Kt;rcases h.kl with⟨rfl,e⟩|⟨rfl,e⟩|⟨rfl,e⟩<;>rw[e]<;>rfl
 rw[hA]at ka
 have hl3:l.length≤4:=by have:=h.kl;omega
 clear h hA;refine Ak (T:=tb) Ah mixed Tryz.func84 rfl (by decide) (Af rfl) rfl ?_;unfold St.init
 simp -implicitDefEqProofs[jJ,-natCast_add,-natCast_mul]
 (first|refine Ab ka ?_|refine Aa ka ?_)
 simp -implicitDefEqProofs[jJ,-natCast_add,-natCast_mul];refine AF (fun i:Nat=>⟨[(21,vI .i64 i),(20,vI .i64 l.length),(19,vC (.d (intsD l))),(1,vI .i64 n)],[]⟩)
  (fun i=>i≤l.length) (fun i=>l.length - i) 0 (by simp[Aw,lk,St.le,vI,vC]) (by omega) ?_
 rintro i h2
 by_cases h:i<l.length
 ·obtain⟨g1,g2⟩:=hin i h
  have c1: ¬l[i]<0:=by omega
  have c2: ¬(n:Int)≤l[i]:=by omega
  have e2:(l.drop i)=l[i]::l.drop (i+1):=AX h
  simp -implicitDefEqProofs[jJ,-natCast_add,-natCast_mul,h,c1,c2,i64];exact⟨by omega,by omega,by omega⟩
 ·have hi2:i=l.length:=by omega
  subst hi2;simp -implicitDefEqProofs[jJ,-natCast_add,-natCast_mul]
theorem Xl(k:Int)(l:List Int)(s:Int)(pts:List Pq)(h:Cond3 pts.length k l)(hn:pts.length≤1000)(hB: ∀q∈pts,q.B 2):
  CallsF Tryz.prog 37 [.agg [.int .i64 k,intsD l,.int .i64 s],.c (Cv pts)] (.tup [.c (.d (.bool (Ct pts l))),.c (.d (.int .i64 0))]):=by
 have kr:=jhJ k l s pts.length h;have hl3:l.length≤4:=by have:=h.kl;omega
 have hin: ∀i (h:i<l.length),0≤l[i]∧l[i]<pts.length:=fun i hi=>h.ag _ (AD hi)
 have hBl: ∀q∈ptsAt pts l,q.B 2:=fun q hq=>by
  unfold ptsAt at hq;obtain⟨a,ha,rfl⟩:=jzk.1 hq;obtain⟨h1,h2⟩:=h.ag a ha;rw[Ax,Am (show a.toNat<pts.length by omega)]
  exact hB _ (AD _)
 have ek: ∀i (h:i<l.length),ptsAt pts (l.take (i+1))=ptsAt pts (l.take i)++[pts.getD l[i].toNat ⟨0,0⟩]:=fun i h=>by
  unfold ptsAt;rw[BX h,List.map_append];rfl
 have el: ∀i,i≤l.length→(ptsAt pts (l.take i)).length=i:=fun i h=>by unfold ptsAt;simp;omega
 have ef:ptsAt pts (l.take l.length)=ptsAt pts l:=by rw[B1]
 have hkl:=h.kl;unfold Ct;clear h hB;refine Ak (T:=tb) Ah mixed Tryz.func37 rfl (by decide) (Af rfl) rfl ?_;unfold St.init
 simp -implicitDefEqProofs[jJ,-natCast_add,-natCast_mul]
 (first|refine Ab kr ?_|refine Aa kr ?_)
 simp -implicitDefEqProofs[jJ,-natCast_add,-natCast_mul];refine CJ [(7,30)] (fun i:Nat=>⟨[(20,vI .i64 i),(19,vI .i64 l.length),(18,vC (.d (intsD l))),(7,vC (.sl 7 0 i)),(2,vC (.ptr 2 0)),(1,vC (.d (Cv pts)))],[(7,.row 6 ((ptsAt pts (l.take i)).flatMap Pq.ds) true),(2,.box [.d (.int .i64 k),.d (intsD l),.d (.int .i64 s)])]⟩)
  (fun i=>i≤l.length) (fun i=>l.length - i) 0 (by simp[Aw,lk,St.le,vI,vC,ptsAt]) (by omega) ?_
 rintro i hi
 by_cases h:i<l.length
 ·have hin:=hin i h;have ek:=ek i h;have el:=el i hi;obtain⟨g1,g2⟩:=hin;have ha:l[i].toNat<pts.length:=by omega
  have e2:=TJ ha;have e3:pts.getD l[i].toNat ⟨0,0⟩=pts[l[i].toNat]:=by rw[Ax,Am ha];rfl
  rw[e3]at ek
  obtain⟨b1,n1,d1,b2,n2,d2,hds⟩: ∃b1 n1 d1 b2 n2 d2,pts[l[i].toNat].ds=[.bool b1,Ac n1,Ac d1,.bool b2,Ac n2,Ac d2]:=⟨_,_,_,_,_,_,rfl⟩
  rw[hds]at e2
  simp only[List.cons_append,List.nil_append]at e2;generalize hp:pts[l[i].toNat]=p at*;generalize hk:l[i]=j at*;have hlt:j<(pts.length:Int):=g2;have hki:j.toNat<pts.length:=ha;simp -implicitDefEqProofs[jJ,-natCast_add,-natCast_mul,h,i64,hk,g1,hlt,hki,e2,el];refine⟨⟨by omega,by omega⟩,by omega,i+1,⟨rfl,?_⟩,by omega,by omega⟩
  rw[ek,List.flatMap_append,List.flatMap_cons,List.flatMap_nil,List.append_nil,hds]
 ·have hi2:i=l.length:=by omega
  subst hi2;rw[ef];have e:(ptsAt pts l).length=l.length:=by
   have:=el l.length (by omega)
   rwa [ef]at this
  clear ek el ef hin h hi kr;rcases hkl with⟨rfl,hl⟩|⟨rfl,hl⟩|⟨rfl,hl⟩
  ·rw[hl]at e
   generalize ptsAt pts l=P at*;rcases P with _|⟨a,_|⟨b,_|⟨c,P⟩⟩⟩<;>simp at e
   have hv:=jgr (k:=2) (hBl a (by simp)) (hBl b (by simp)) (by omega)
   simp only[Gm,hl,List.flatMap_cons,List.flatMap_nil,List.append_nil];generalize (decide (a.x=b.x)&&decide (a.y=b.y))=bb at*;obtain⟨b1,n1,d1,b2,n2,d2,hds⟩: ∃b1 n1 d1 b2 n2 d2,a.ds=[.bool b1,Ac n1,Ac d1,.bool b2,Ac n2,Ac d2]:=⟨_,_,_,_,_,_,rfl⟩;obtain⟨c1,o1,f1,c2,o2,f2,hes⟩: ∃b1 n1 d1 b2 n2 d2,b.ds=[.bool b1,Ac n1,Ac d1,.bool b2,Ac n2,Ac d2]:=⟨_,_,_,_,_,_,rfl⟩;rw[hds,hes]at hv ⊢;simp only[List.cons_append,List.nil_append];simp -implicitDefEqProofs[jJ,-natCast_add,-natCast_mul];refine At (Ad [0,1,3,0,8,24,63,127,255,511]) [.any [] [] (Ap [[7],[36],[37],[7],[39],[40]]),.one,.one,.one,.one] (by rfl) ?_
   simp -implicitDefEqProofs[jJ,-natCast_add,-natCast_mul]
   (first|refine Ab hv ?_|refine Aa hv ?_)
   simp -implicitDefEqProofs[jJ,-natCast_add,-natCast_mul]
  ·rw[hl]at e
   generalize ptsAt pts l=P at*;rcases P with _|⟨a,_|⟨b,_|⟨c,_|⟨d,P⟩⟩⟩⟩<;>simp at e
   have ba:=hBl a (by simp)
   have bb:=hBl b (by simp)
   have bc:=hBl c (by simp)
   have hx:=NT (k:=2) ba bb ba bc (by omega)
   have hz:=QE (k:=21) (Kf (k:=5) (Du (k:=2) ba bb) (Du (k:=2) ba bc)) (by omega)
   simp only[Gm,hl,List.flatMap_cons,List.flatMap_nil,List.append_nil];generalize (vec a b).cross (vec a c)=q at*;generalize sgnQ q=z at*;clear ba bb bc hBl;obtain⟨b1,n1,d1,b2,n2,d2,hds⟩: ∃b1 n1 d1 b2 n2 d2,a.ds=[.bool b1,Ac n1,Ac d1,.bool b2,Ac n2,Ac d2]:=⟨_,_,_,_,_,_,rfl⟩;obtain⟨c1,o1,f1,c2,o2,f2,hes⟩: ∃b1 n1 d1 b2 n2 d2,b.ds=[.bool b1,Ac n1,Ac d1,.bool b2,Ac n2,Ac d2]:=⟨_,_,_,_,_,_,rfl⟩;obtain⟨g1,p1,h1,g2,p2,h2,hfs⟩: ∃b1 n1 d1 b2 n2 d2,c.ds=[.bool b1,Ac n1,Ac d1,.bool b2,Ac n2,Ac d2]:=⟨_,_,_,_,_,_,rfl⟩;rw[hds,hes,hfs]at hx;rw[hds,hes,hfs];unfold AZ at hx;unfold AS at hz;simp only[List.cons_append,List.nil_append];simp -implicitDefEqProofs[jJ,-natCast_add,-natCast_mul];refine At (Ad [0,1,3,0,8,24,0,64,192,0,512,1536,4095,8191,16383,32767,65535]) [.any [] [] (Ap [[7],[46],[47],[7],[49],[50],[7],[52],[53],[7],[55],[56]]),.one,.one,.one,.one,.one] (by rfl) ?_
   simp -implicitDefEqProofs[jJ,-natCast_add,-natCast_mul]
   (first|refine Ab hx ?_|refine Aa hx ?_)
   simp -implicitDefEqProofs[jJ,-natCast_add,-natCast_mul]
   (first|refine Ab hz ?_|refine Aa hz ?_)
   simp -implicitDefEqProofs[jJ,-natCast_add,-natCast_mul]
  ·rw[hl]at e
   generalize ptsAt pts l=P at*;rcases P with _|⟨a,_|⟨b,_|⟨c,_|⟨d,_|⟨w,P⟩⟩⟩⟩⟩<;>simp at e
   have ba:=hBl a (by simp)
   have bb:=hBl b (by simp)
   have bc:=hBl c (by simp)
   have bd:=hBl d (by simp)
   have hx:=NT (k:=2) ba bb bc bd (by omega)
   have hz:=QE (k:=21) (Kf (k:=5) (Du (k:=2) ba bb) (Du (k:=2) bc bd)) (by omega)
   simp only[Gm,hl,List.flatMap_cons,List.flatMap_nil,List.append_nil];generalize (vec a b).cross (vec c d)=q at*;generalize sgnQ q=z at*;clear ba bb bc bd hBl;obtain⟨b1,n1,d1,b2,n2,d2,hds⟩: ∃b1 n1 d1 b2 n2 d2,a.ds=[.bool b1,Ac n1,Ac d1,.bool b2,Ac n2,Ac d2]:=⟨_,_,_,_,_,_,rfl⟩;obtain⟨c1,o1,f1,c2,o2,f2,hes⟩: ∃b1 n1 d1 b2 n2 d2,b.ds=[.bool b1,Ac n1,Ac d1,.bool b2,Ac n2,Ac d2]:=⟨_,_,_,_,_,_,rfl⟩;obtain⟨g1,p1,h1,g2,p2,h2,hfs⟩: ∃b1 n1 d1 b2 n2 d2,c.ds=[.bool b1,Ac n1,Ac d1,.bool b2,Ac n2,Ac d2]:=⟨_,_,_,_,_,_,rfl⟩;obtain⟨i1,q1,j1,i2,q2,j2,hgs⟩: ∃b1 n1 d1 b2 n2 d2,d.ds=[.bool b1,Ac n1,Ac d1,.bool b2,Ac n2,Ac d2]:=⟨_,_,_,_,_,_,rfl⟩;rw[hds,hes,hfs,hgs]at hx;rw[hds,hes,hfs,hgs];unfold AZ at hx;unfold AS at hz;simp only[List.cons_append,List.nil_append];simp -implicitDefEqProofs[jJ,-natCast_add,-natCast_mul];refine At (Ad [0,1,3,0,8,24,0,64,192,0,512,1536,4095,8191,16383,32767,65535]) [.any [] [] (Ap [[7],[63],[64],[7],[66],[67],[7],[69],[70],[7],[72],[73]]),.one,.one,.one,.one,.one] (by rfl) ?_
   simp -implicitDefEqProofs[jJ,-natCast_add,-natCast_mul]
   (first|refine Ab hx ?_|refine Aa hx ?_)
   simp -implicitDefEqProofs[jJ,-natCast_add,-natCast_mul]
   (first|refine Ab hz ?_|refine Aa hz ?_)
   simp -implicitDefEqProofs[jJ,-natCast_add,-natCast_mul]
theorem EJ{pts:List Pq}{i:Int}(l:List Int)(h:0≤i∧i<(pts.length:Int)): ∃p r,(pts.drop i.toNat).flatMap Pq.ds=p.ds++r∧p∈pts∧ptsAt pts (i::l)=p::ptsAt pts l:=by
 have ha:i.toNat<pts.length:=by omega
 refine⟨pts[i.toNat],_,TJ ha,AD ha,?_⟩
 unfold ptsAt;rw[List.map_cons,Ax,Am ha];rfl
theorem EY(p:Pq): ∃b1 n1 d1 b2 n2 d2,p.ds=[.bool b1,Ac n1,Ac d1,.bool b2,Ac n2,Ac d2]:=⟨_,_,_,_,_,_,rfl⟩
theorem jev(k:Int)(l:List Int)(pts:List Pq)(h:Cond3 pts.length k l)(hn:pts.length≤1000)(hB: ∀q∈pts,q.B 2):
  CallsF Tryz.prog 38 [.c (.int .i64 k),.c (intsD l),.c (Cv pts)] (.u (.c (.d (.bool (Ct pts l))))):=by
 obtain⟨hkl,hag⟩:=h
 unfold Ct;rcases hkl with⟨rfl,hl⟩|⟨rfl,hl⟩|⟨rfl,hl⟩
 ·rcases l with _|⟨i,_|⟨j,_|⟨v,l⟩⟩⟩<;>simp at hl
  have hi:=hag i (by simp)
  have hj:=hag j (by simp)
  obtain⟨a,ra,ea,ma,pa⟩:=EJ [j] hi
  obtain⟨b,rb,eb,mb,pb⟩:=EJ [] hj
  rw[pa,pb]
  have hv:=YA (k:=2) (hB a ma) (hB b mb) (by omega)
  simp only[ptsAt,List.map_nil,Gm];generalize (decide (a.x=b.x)&&decide (a.y=b.y))=bb at*;clear pa pb ma mb hB hag hl;obtain⟨b1,n1,d1,b2,n2,d2,hds⟩:=EY a;obtain⟨c1,o1,f1,c2,o2,f2,hes⟩:=EY b;rw[hds]at ea hv;rw[hes]at eb hv;simp only[List.cons_append,List.nil_append]at ea eb;refine Ak (T:=tb) Ah mixed Tryz.func38 rfl (by decide) (Af rfl) rfl ?_;unfold St.init
  simp -implicitDefEqProofs[jJ,-natCast_add,-natCast_mul];refine At (Ad [0,0,2,6,15,31,0,0,128,384,960,1984,4095,8191,16383]) [.any [] [] (Ap [[2],[1],[11],[12],[10,13],[14],[2],[1],[17],[18],[16,19],[20]]),.one,.one,.one] (by rfl) ?_
  simp -implicitDefEqProofs[jJ,-natCast_add,-natCast_mul,i64,hi.1,hi.2,hj.1,hj.2,ea,eb]
  trace_state
  (first|refine Ab hv ?_|refine Aa hv ?_)
  simp -implicitDefEqProofs[jJ,-natCast_add,-natCast_mul]
 ·rcases l with _|⟨i,_|⟨j,_|⟨m,_|⟨v,l⟩⟩⟩⟩<;>simp at hl
  have hi:=hag i (by simp)
  have hj:=hag j (by simp)
  have hm:=hag m (by simp)
  obtain⟨a,ra,ea,ma,pa⟩:=EJ [j,m] hi
  obtain⟨b,rb,eb,mb,pb⟩:=EJ [m] hj
  obtain⟨c,rc,ec,mc,pc⟩:=EJ [] hm
  rw[pa,pb,pc]
  have ba:=hB a ma;have bb:=hB b mb;have bc:=hB c mc;have hx:=Oz (k:=2) ba bb ba bc (by omega)
  have hz:=SZ (k:=21) (Kf (k:=5) (Du (k:=2) ba bb) (Du (k:=2) ba bc)) (by omega)
  simp only[ptsAt,List.map_nil,Gm];generalize (vec a b).cross (vec a c)=q at*;generalize sgnQ q=z at*;clear pa pb pc ma mb mc hB hag hl ba bb bc;obtain⟨b1,n1,d1,b2,n2,d2,hds⟩:=EY a;obtain⟨c1,o1,f1,c2,o2,f2,hes⟩:=EY b;obtain⟨g1,p1,h1,g2,p2,h2,hfs⟩:=EY c;rw[hds]at ea;rw[hes]at eb;rw[hfs]at ec;rw[hds,hes,hfs]at hx;unfold AZ at hx;unfold AS at hz;simp only[List.cons_append,List.nil_append]at ea eb ec;refine Ak (T:=tb) Ah mixed Tryz.func38 rfl (by decide) (Af rfl) rfl ?_;unfold St.init
  simp -implicitDefEqProofs[jJ,-natCast_add,-natCast_mul];refine At (Ad [0,0,2,6,15,31,0,0,128,384,960,1984,0,0,8192,24576,61440,126976,0,0,524288,1572864,3932160,8126464,16777215,33554431,67108863,134217727]) [.any [] [] (Ap [[2],[1],[27],[28],[26,29],[30],[2],[1],[33],[34],[32,35],[36],[2],[1],[39],[40],[38,41],[42],[2],[1],[45],[46],[44,47],[48]]),.one,.one,.one,.one] (by rfl) ?_
  simp -implicitDefEqProofs[jJ,-natCast_add,-natCast_mul,i64,hi.1,hi.2,hj.1,hj.2,hm.1,hm.2,ea,eb,ec]
  (first|refine Ab hx ?_|refine Aa hx ?_)
  simp -implicitDefEqProofs[jJ,-natCast_add,-natCast_mul]
  (first|refine Ab hz ?_|refine Aa hz ?_)
  simp -implicitDefEqProofs[jJ,-natCast_add,-natCast_mul]
 ·rcases l with _|⟨i,_|⟨j,_|⟨m,_|⟨o,_|⟨v,l⟩⟩⟩⟩⟩<;>simp at hl
  have hi:=hag i (by simp)
  have hj:=hag j (by simp)
  have hm:=hag m (by simp)
  have ho:=hag o (by simp)
  obtain⟨a,ra,ea,ma,pa⟩:=EJ [j,m,o] hi
  obtain⟨b,rb,eb,mb,pb⟩:=EJ [m,o] hj
  obtain⟨c,rc,ec,mc,pc⟩:=EJ [o] hm
  obtain⟨d,rd,ed,md,pd⟩:=EJ [] ho
  rw[pa,pb,pc,pd]
  have ba:=hB a ma;have bb:=hB b mb;have bc:=hB c mc;have bd:=hB d md;have hx:=Oz (k:=2) ba bb bc bd (by omega)
  have hz:=SZ (k:=21) (Kf (k:=5) (Du (k:=2) ba bb) (Du (k:=2) bc bd)) (by omega)
  simp only[ptsAt,List.map_nil,Gm];generalize (vec a b).cross (vec c d)=q at*;generalize sgnQ q=z at*;clear pa pb pc pd ma mb mc md hB hag hl ba bb bc bd;obtain⟨b1,n1,d1,b2,n2,d2,hds⟩:=EY a;obtain⟨c1,o1,f1,c2,o2,f2,hes⟩:=EY b;obtain⟨g1,p1,h1,g2,p2,h2,hfs⟩:=EY c;obtain⟨i1,q1,j1,i2,q2,j2,hgs⟩:=EY d;rw[hds]at ea;rw[hes]at eb;rw[hfs]at ec;rw[hgs]at ed;rw[hds,hes,hfs,hgs]at hx;unfold AZ at hx;unfold AS at hz;simp only[List.cons_append,List.nil_append]at ea eb ec ed;refine Ak (T:=tb) Ah mixed Tryz.func38 rfl (by decide) (Af rfl) rfl ?_;unfold St.init
  simp -implicitDefEqProofs[jJ,-natCast_add,-natCast_mul];refine At (Ad [0,0,2,6,15,31,0,0,128,384,960,1984,0,0,8192,24576,61440,126976,0,0,524288,1572864,3932160,8126464,16777215,33554431,67108863,134217727]) [.any [] [] (Ap [[2],[1],[56],[57],[55,58],[59],[2],[1],[62],[63],[61,64],[65],[2],[1],[68],[69],[67,70],[71],[2],[1],[74],[75],[73,76],[77]]),.one,.one,.one,.one] (by rfl) ?_
  simp -implicitDefEqProofs[jJ,-natCast_add,-natCast_mul,i64,hi.1,hi.2,hj.1,hj.2,hm.1,hm.2,ho.1,ho.2,ea,eb,ec,ed]
  (first|refine Ab hx ?_|refine Aa hx ?_)
  simp -implicitDefEqProofs[jJ,-natCast_add,-natCast_mul]
  (first|refine Ab hz ?_|refine Aa hz ?_)
  simp -implicitDefEqProofs[jJ,-natCast_add,-natCast_mul]
theorem jdm{n:Nat}{g:Grd}(h:errG n g=0):Cond3 n g.kind g.args:=by
 unfold errG at h;split at h
 ·omega
 split at h
 ·omega
 split at h
 ·omega
 rename_i h1 h2 h3
 have hlen:(g.args.length:Int)=grdN g.kind:=by simpa using h2
 refine⟨?_,fun a ha=> ?_⟩
 ·unfold grdN at h1 hlen;split at hlen
  ·exact .inl ⟨‹_›,by omega⟩
  split at hlen
  ·exact .inr (.inl ⟨‹_›,by omega⟩)
  split at hlen
  ·exact .inr (.inr ⟨‹_›,by omega⟩)
  ·omega
 ·have h3:g.args.any (EG n)=false:=by simpa using h3
  have:=List.any_eq_false.1 h3 a ha
  unfold EG at this;simp at this;omega
def QO:List (List Nat):=(Ad [0,1,0,7,15,31,0,64,0,448,960,1984,0,8191,16383])
@[simp]def Ul:List Seg:=[.any [] [] (Ap [[2],[34],[8],[35,36],[37],[38],[2],[40],[8],[41,42],[43],[44],[1]]),.one,.one]
def errM(pts:List Pq)(gs:List Grd):Int:=C4 (EE pts.length gs)
def meetB(pts:List Pq)(gs:List Grd):Bool:=decide (errM pts gs=0)&&gs.all fun g=>Ct pts g.args
theorem jkt{l:List Int}(h:C4 l=0): ∀e∈l,e=0:=by
 induction l with
 |nil=>intro e he;cases he
 |cons a l ih=>
  unfold C4 at h;by_cases ha:a=0
  ·subst ha;simp at h;intro e he;rcases jzn.1 he with rfl|he
   ·rfl
   ·exact ih h e he
  ·simp[ha]at h
theorem O5{pts:List Pq}{gs:List Grd}(h:errM pts gs=0): ∀g∈gs,Cond3 pts.length g.kind g.args:=fun g hg=>by
 have:=jkt h (errG pts.length g) (by unfold EE;exact jzk.2 ⟨g,hg,rfl⟩)
 exact jdm this
theorem Zj(ds:List Der)(gs:List Grd)(pts:List Pq)(hg:gs.length≤1000)(hs: ∀g∈gs,g.args.length≤1000)(hB: ∀q∈pts,q.B 2)(hn:pts.length≤1000):
  CallsF Tryz.prog 14 [.agg [Fp ds,Br gs],.c (Cv pts)] (.tup [.c (.d (.bool (meetB pts gs))),.c (.d (.int .i64 (errM pts gs)))]):=by
 have q0:=fun i (h:i<gs.length)=>X0 gs[i] (pts.length:Int) (hs _ (AD h))
 have q1:=fun(he:errM pts gs=0) i (h:i<gs.length)=>Xl gs[i].kind gs[i].args 0 pts (O5 he _ (AD h)) hn hB
 have hlp:lenC (.d (Cv pts))=some pts.length:=rfl
 obtain⟨E,hE⟩: ∃E,C4 ((EE pts.length gs).drop 0)=E:=⟨_,rfl⟩
 have hE0:errM pts gs=E:=hE
 have hel:=P5 pts.length gs;have hea:=fun i (h:i<gs.length)=>TN (pts.length:Int) h
 have hm1:E≠0→meetB pts gs=false:=fun h=>by unfold meetB;rw[hE0];simp[h]
 have hm2:E=0→(∀j (h:j<gs.length),Ct pts gs[j].args=true)→meetB pts gs=true:=fun h h2=>by
  unfold meetB;rw[hE0,h,AC];refine⟨by simp,?_⟩
  rw[jzy]
  intro x hx;obtain⟨j,hj,rfl⟩:=List.mem_iff_getElem.1 hx;exact h2 j hj
 have hm3: ∀i (h:i<gs.length),Ct pts gs[i].args=false→meetB pts gs=false:=fun i h h2=>by
  unfold meetB;rw[Bool.and_eq_false_iff]
  right
  rw[List.all_eq_false]
  exact⟨_,AD h,by simpa using h2⟩
 rw[hE0]at q1 ⊢
 generalize meetB pts gs=mb at*;clear hE0 hB hs;refine Ak (T:=tb) Ah mixed Tryz.func14 rfl (by decide) (Af rfl) rfl ?_;unfold St.init
 simp only[Fp,Br]at*;simp -implicitDefEqProofs[-Ip,jJ,-natCast_add,-natCast_mul,-List.reduceReplicate];refine AF (fun i:Nat=>⟨[(16,vI .i64 i),(15,vI .i64 gs.length),(14,vC (.d (.slice gs.length (gs.flatMap Grd.ds)))),(1,vC (.d (Cv pts))),(2,vC (.ptr 2 0))],[(2,.box [.d (.slice ds.length (ds.flatMap Der.ds)),.d (.slice gs.length (gs.flatMap Grd.ds))])]⟩)
  (fun i=>i≤gs.length∧C4 ((EE pts.length gs).drop i)=E) (fun i=>gs.length - i) 0 (by simp[-Ip,Aw,lk,St.le,vI,vC]) ⟨by omega,hE⟩ ?_
 rintro i ⟨hi,hEi⟩
 by_cases h:i<gs.length
 ·have g:=Fi gs i h;have b1:i*2+2≤gs.length*2:=by omega
  have q0:=q0 i h;have q2:=hea i h;generalize errG pts.length gs[i]=e at*;simp only[Grd.ds]at q0;clear q1 hm3;simp -implicitDefEqProofs[-Ip,jJ,-natCast_add,-natCast_mul,-List.reduceReplicate,h,g];refine⟨by omega,?_⟩
  (first|refine Ab q0 ?_|refine Aa q0 ?_)
  by_cases he:e=0
  ·subst he;simp -implicitDefEqProofs[-Ip,jJ,-natCast_add,-natCast_mul,-List.reduceReplicate];exact⟨by omega,⟨by omega,OB q2 hEi⟩,by omega⟩
  ·have hE2:=TY q2 he hEi;subst hE2;have hm1:=hm1 he;subst hm1;simp -implicitDefEqProofs[-Ip,jJ,-natCast_add,-natCast_mul,-List.reduceReplicate,he]
 ·have hi2:i=gs.length:=by omega
  subst hi2;have hE3:=RH (by rw[hel];exact Az _) hEi
  subst hE3;have q1:=q1 rfl;have hm2:=hm2 rfl;clear hm1 hE hEi q0 hea;simp -implicitDefEqProofs[-Ip,jJ,-natCast_add,-natCast_mul,-List.reduceReplicate];refine AF (fun i:Nat=>⟨[(31,vI .i64 i),(30,vI .i64 gs.length),(29,vC (.d (.slice gs.length (gs.flatMap Grd.ds)))),(1,vC (.d (Cv pts)))],[]⟩)
   (fun i=>i≤gs.length∧ ∀j (h:j<gs.length),j<i→Ct pts gs[j].args=true) (fun i=>gs.length - i) 0 (by simp[-Ip,Aw,lk,St.le,vI,vC]) ⟨by omega,fun j h hj=>by omega⟩ ?_
  rintro i ⟨hi,h3⟩
  by_cases h:i<gs.length
  ·have g:=Fi gs i h;have b1:i*2+2≤gs.length*2:=by omega
   have q1:=q1 i h;have hm3:=hm3 i h;have h4: ∀j (hj:j<gs.length),j<i+1→Ct pts gs[i].args=true→Ct pts gs[j].args=true:=fun j hj hp e1=>if e:j=i then by subst e;exact e1 else h3 j hj (by omega)
   clear hm2 h3;cases hb:Ct pts gs[i].args with
   |false=>
    have hm3:=hm3 hb;subst hm3;rw[hb]at q1;simp -implicitDefEqProofs[-Ip,jJ,-natCast_add,-natCast_mul,-List.reduceReplicate,h,g];refine⟨by omega,?_⟩
    (first|refine Ab q1 ?_|refine Aa q1 ?_)
    simp -implicitDefEqProofs[-Ip,jJ,-natCast_add,-natCast_mul,-List.reduceReplicate]
   |true=>
    rw[hb]at q1
    simp -implicitDefEqProofs[-Ip,jJ,-natCast_add,-natCast_mul,-List.reduceReplicate,h,g];refine⟨by omega,?_⟩
    (first|refine Ab q1 ?_|refine Aa q1 ?_)
    simp -implicitDefEqProofs[-Ip,jJ,-natCast_add,-natCast_mul,-List.reduceReplicate];exact⟨by omega,⟨by omega,fun j hj hp=>h4 j hj hp hb⟩,by omega⟩
  ·have hi2:i=gs.length:=by omega
   subst hi2;have hm2:=hm2 fun j hj=>h3 j hj hj
   subst hm2;simp -implicitDefEqProofs[-Ip,jJ,-natCast_add,-natCast_mul,-List.reduceReplicate]
theorem KX{gs:List Grd}{i:Nat}(h:i<gs.length):(gs.flatMap Grd.ds)[i*2]? =some (.int .i64 gs[i].kind):=by
 have e:=congrArg (fun l=>l[0]?) (EO Grd.ds_len gs i h)
 simpa [Grd.ds,List.getElem?_take,List.getElem?_drop]using e
theorem RS{gs:List Grd}{i:Nat}(h:i<gs.length):(gs.flatMap Grd.ds)[i*2+1]? =some (intsD gs[i].args):=by
 have e:=congrArg (fun l=>l[1]?) (EO Grd.ds_len gs i h)
 simpa [Grd.ds,List.getElem?_take,List.getElem?_drop]using e
theorem jac(ds:List Der)(gs:List Grd)(pts:List Pq)(hg:gs.length≤1000)(hs: ∀g∈gs,g.args.length≤1000)(hB: ∀q∈pts,q.B 2)(hn:pts.length≤1000):
  CallsF Tryz.prog 15 [.agg [Fp ds,Br gs],.c (Cv pts)] (.tup [.c (.d (.bool (meetB pts gs))),.c (.d (.int .i64 (errM pts gs)))]):=by
 have q0:=fun i (h:i<gs.length)=>V3 gs[i] (pts.length:Int) (hs _ (AD h))
 have q1:=fun(he:errM pts gs=0) i (h:i<gs.length)=>jev gs[i].kind gs[i].args pts (O5 he _ (AD h)) hn hB
 obtain⟨E,hE⟩: ∃E,C4 ((EE pts.length gs).drop 0)=E:=⟨_,rfl⟩
 have hE0:errM pts gs=E:=hE
 have hel:=P5 pts.length gs;have hea:=fun i (h:i<gs.length)=>TN (pts.length:Int) h
 have hm1:E≠0→meetB pts gs=false:=fun h=>by unfold meetB;rw[hE0];simp[-Ip,h]
 have hm2:E=0→(∀j (h:j<gs.length),Ct pts gs[j].args=true)→meetB pts gs=true:=fun h h2=>by
  unfold meetB;rw[hE0,h,AC];refine⟨by simp,?_⟩
  rw[jzy]
  intro x hx;obtain⟨j,hj,rfl⟩:=List.mem_iff_getElem.1 hx;exact h2 j hj
 have hm3: ∀i (h:i<gs.length),Ct pts gs[i].args=false→meetB pts gs=false:=fun i h h2=>by
  unfold meetB;rw[Bool.and_eq_false_iff]
  right
  rw[List.all_eq_false]
  exact⟨_,AD h,by simpa using h2⟩
 rw[hE0]at q1 ⊢
 generalize meetB pts gs=mb at*;clear hE0 hB hs;refine Ak (T:=tb) Ah mixed Tryz.func15 rfl (by decide) (Af rfl) rfl ?_;unfold St.init
 simp only[Fp,Br]at*;simp -implicitDefEqProofs[-Ip,jJ,-natCast_add,-natCast_mul,-List.reduceReplicate];refine AF (fun i:Nat=>⟨[(6,vI .i64 i),(1,vC (.d (Cv pts))),(2,vC (.ptr 2 0))],[(2,.box [.d (.slice ds.length (ds.flatMap Der.ds)),.d (.slice gs.length (gs.flatMap Grd.ds))])]⟩)
  (fun i=>i≤gs.length∧C4 ((EE pts.length gs).drop i)=E) (fun i=>gs.length - i) 0 (by simp[-Ip,Aw,lk,St.le,vI,vC]) ⟨by omega,hE⟩ ?_
 rintro i ⟨hi,hEi⟩
 by_cases h:i<gs.length
 ·have g:=Fi gs i h;have b1:i*2+2≤gs.length*2:=by omega
  have q0:=q0 i h;have q2:=hea i h;generalize errG pts.length gs[i]=e at*;simp only[Grd.ds]at q0;clear q1 hm3;simp -implicitDefEqProofs[-Ip,jJ,-natCast_add,-natCast_mul,-List.reduceReplicate,h,g];refine⟨by omega,?_⟩
  (first|refine Ab q0 ?_|refine Aa q0 ?_)
  by_cases he:e=0
  ·subst he;simp -implicitDefEqProofs[-Ip,jJ,-natCast_add,-natCast_mul,-List.reduceReplicate];exact⟨by omega,⟨by omega,OB q2 hEi⟩,by omega⟩
  ·have hE2:=TY q2 he hEi;subst hE2;have hm1:=hm1 he;subst hm1;simp -implicitDefEqProofs[-Ip,jJ,-natCast_add,-natCast_mul,-List.reduceReplicate,he]
 ·have hi2:i=gs.length:=by omega
  subst hi2;have hE3:=RH (by rw[hel];exact Az _) hEi
  subst hE3;have q1:=q1 rfl;have hm2:=hm2 rfl;clear hm1 hE hEi q0 hea;simp -implicitDefEqProofs[-Ip,jJ,-natCast_add,-natCast_mul,-List.reduceReplicate];refine AF (fun i:Nat=>⟨[(8,vI .i64 i),(1,vC (.d (Cv pts))),(2,vC (.ptr 2 0))],[(2,.box [.d (.slice ds.length (ds.flatMap Der.ds)),.d (.slice gs.length (gs.flatMap Grd.ds))])]⟩)
   (fun i=>i≤gs.length∧ ∀j (h:j<gs.length),j<i→Ct pts gs[j].args=true) (fun i=>gs.length - i) 0 (by simp[-Ip,Aw,lk,St.le,vI,vC]) ⟨by omega,fun j h hj=>by omega⟩ ?_
  rintro i ⟨hi,h3⟩
  by_cases h:i<gs.length
  ·have g:=Fi gs i h;have b1:i*2+2≤gs.length*2:=by omega
   have q1:=q1 i h;have hm3:=hm3 i h;have h4: ∀j (hj:j<gs.length),j<i+1→Ct pts gs[i].args=true→Ct pts gs[j].args=true:=fun j hj hp e1=>if e:j=i then by subst e;exact e1 else h3 j hj (by omega)
   clear hm2 h3;cases hb:Ct pts gs[i].args with
   |false=>
    have hm3:=hm3 hb;subst hm3;rw[hb]at q1;have gk: ∀hh,(gs.flatMap Grd.ds)[i*2]'hh= .int .i64 gs[i].kind:=fun hh=>by
     have:=KX h
     rw[Am hh]at this
     exact AK this
    simp -implicitDefEqProofs[-Ip,jJ,-natCast_add,-natCast_mul,-List.reduceReplicate,h];refine At QO Ul (by rfl) ?_
    simp -implicitDefEqProofs[-Ip,jJ,-natCast_add,-natCast_mul,-List.reduceReplicate,h,KX h,RS h,gk]
    (first|refine Ab q1 ?_|refine Aa q1 ?_)
    simp -implicitDefEqProofs[-Ip,jJ,-natCast_add,-natCast_mul,-List.reduceReplicate]
   |true=>
    rw[hb]at q1
    have gk: ∀hh,(gs.flatMap Grd.ds)[i*2]'hh= .int .i64 gs[i].kind:=fun hh=>by
     have:=KX h
     rw[Am hh]at this
     exact AK this
    simp -implicitDefEqProofs[-Ip,jJ,-natCast_add,-natCast_mul,-List.reduceReplicate,h];refine At QO Ul (by rfl) ?_
    simp -implicitDefEqProofs[-Ip,jJ,-natCast_add,-natCast_mul,-List.reduceReplicate,h,KX h,RS h,gk]
    (first|refine Ab q1 ?_|refine Aa q1 ?_)
    simp -implicitDefEqProofs[-Ip,jJ,-natCast_add,-natCast_mul,-List.reduceReplicate];exact⟨by omega,⟨by omega,fun j hj hp=>h4 j hj hp hb⟩,by omega⟩
  ·have hi2:i=gs.length:=by omega
   subst hi2;have hm2:=hm2 fun j hj=>h3 j hj hj
   subst hm2;simp -implicitDefEqProofs[-Ip,jJ,-natCast_add,-natCast_mul,-List.reduceReplicate]
end Go.Va
