/- a part of the proof -/
import Derived.Test.YtkfdniccmcolgaaGreatQbo
import Derived.Test.YtkfdniccmcolgaaGreatQbp
import Derived.Test.YtkfdniccmcolgaaGreatQbi
import Derived.Test.YtkfdniccmcolgaaGreatQbk
set_option linter.all false
set_option maxHeartbeats 4000000
set_option maxRecDepth 10000
namespace Go.Va
open Go.Proofs
theorem jgu(k:Nat)(h4:k≠4)(h9:k≠9):(AJ k).derive= .nilFn∧(AJ k).count=0:=by
 unfold AJ;split<;>first|exact absurd rfl h4|exact absurd rfl h9|exact⟨rfl,rfl⟩
theorem M7(n:Int)(h4:n≠4)(h9:n≠9):(rulT n).derive= .nilFn∧(rulT n).count=((rulT n).prem.length:Int):=by
 obtain⟨a,b⟩:=jgu n.toNat (by omega) (by omega)
 refine⟨a,?_⟩
 show(AJ n.toNat).count+((AJ n.toNat).prem.length:Int)=_
 rw[b,Int.zero_add]
 rfl
def Dp(n:Int)(ps:List Fct):List Fnd:=if n=4 then Cl HZ 4 ps else if n=9 then Cl Cw 9 ps else CG n ps
theorem UX(Y:List Fct→List Fct)(n:Int)(ps:List Fct)(hps: ∀f∈ps,f.Mild)(hc:(rulT n).count=2)
  (hY: ∀p q,ps=[p,q]→(∀f∈ps,(normF f).kind≠0)→(∀f∈Y (ps.map normF),f.Mild)∧(Y (ps.map normF)).length≤1000):FndOk (Cl Y n ps)∧(Cl Y n ps).length≤100000000000:=by
 unfold Cl;split
 ·exact⟨.nil,by simp⟩
 split
 ·exact⟨.nil,by simp⟩
 ·rename_i h0 hz
  have hk: ∀f∈ps,(normF f).kind≠0:=fun g hg hk=>hz (List.any_eq_true.2 ⟨_,jzk.2 ⟨g,hg,rfl⟩,by simpa using hk⟩)
  have h2:ps.length=2:=by
   have: ¬(ps.length:Int)≠(rulT n).count:=fun h=>h0 (.inr h)
   omega
  obtain⟨p,q,hpq⟩: ∃p q,ps=[p,q]:=by
   match ps,h2 with
   |[p,q],_=>exact⟨p,q,rfl⟩
  obtain⟨y1,y2⟩:=hY p q hpq hk
  generalize Y (ps.map normF)=Q at*;have hP: ∀x∈Q.map (fun f=>((f,[]):AR)),FY x:=by
   intro x hx;obtain⟨f,hf,rfl⟩:=jzk.1 hx;exact⟨y1 f hf,by simp,by simp⟩
  have hok:=G7 (nl:=ps.map normF) _ [] .nil hP;have hlen:=Ip (ps.map normF) (Q.map (fun f=>((f,[]):AR))) []
  refine⟨⟨fun x hx=>hok.rt x ((DV _).mem_iff.1 hx),fun x hx=>hok.sh x ((DV _).mem_iff.1 hx),?_⟩,?_⟩
  ·exact((DV _).pairwise_iff (fun h=>Ne.symm h)).2 hok.nd
  ·rw[I0]
   simp at hlen;omega
theorem NF{ps:List Fct}(hps: ∀f∈ps,f.Mild)(hs: ∀f∈ps,f.Short2)(p q:Fct)(e:ps=[p,q])(hk: ∀f∈ps,(normF f).kind≠0):(∀f∈HZ (ps.map normF),f.Mild)∧(HZ (ps.map normF)).length≤1000:=by
 subst e;have r1:=Ca (hps p (by simp)) (hk p (by simp))
 have r2:=Ca (hps q (by simp)) (hk q (by simp))
 exact⟨Rx r1 r2 (GY (hps p (by simp)) (hs p (by simp))) (GY (hps q (by simp)) (hs q (by simp))),Nat.le_trans (RE r1 r2) (by omega)⟩
theorem MB{ps:List Fct}(hps: ∀f∈ps,f.Mild)(p q:Fct)(e:ps=[p,q])(hk: ∀f∈ps,(normF f).kind≠0):(∀f∈Cw (ps.map normF),f.Mild)∧(Cw (ps.map normF)).length≤1000:=by
 subst e;have r2:=Ca (hps q (by simp)) (hk q (by simp))
 simp only[List.map_cons,List.map_nil];generalize normF p=p' at*;generalize normF q=q' at*;unfold Cw;simp only;split
 ·split
  ·refine⟨fun f hf=> ?_,by simp⟩
   simp only[jzn,AM,or_false]at hf;rcases hf with rfl|rfl
   ·exact I1 r2.mild
   ·exact I1 r2.mild
  ·exact⟨by simp,by simp⟩
 ·exact⟨by simp,by simp⟩
theorem Ge(n:Int)(ps:List Fct)(hps: ∀f∈ps,f.Mild)(hs: ∀f∈ps,f.Short2):FndOk (Dp n ps)∧(Dp n ps).length≤100000000000:=by
 unfold Dp;split
 ·exact UX _ _ _ hps rfl fun p q e hk=>NF hps hs p q e hk
 split
 ·exact UX _ _ _ hps rfl fun p q e hk=>MB hps p q e hk
 ·rename_i h4 h9
  by_cases h3:ps.length≤3
  ·exact OH n ps hps h3
  ·have e:CG n ps=[]:=by
    unfold CG;rw[if_pos];refine .inr ?_;rw[(M7 n h4 h9).2];have:=(Ih n).lp;omega
   rw[e]
   exact⟨.nil,by simp⟩
theorem Ta(n:Int)(ps:List Fct)(hps: ∀f∈ps,f.Mild)(hs: ∀f∈ps,f.Short2)(hl:ps.length≤1000):
  CallsF Tryz.prog 29 [.c (.int .i64 n),.c (AE ps)] (.u (.c (.d (BQ (Dp n ps))))):=by
 unfold Dp;split
 ·rename_i h
  subst h;have q:=(jeb ps hps hs hl).dat;simp only[R.dat,RU.dat,RC.dat]at q;rw[IV]at q;exact q
 split
 ·rename_i h
  subst h;have q:=(jdC ps hps hl).dat;simp only[R.dat,RU.dat,RC.dat]at q;rw[IV]at q;exact q
 ·rename_i h4 h9
  exact L0 n ps hps (M7 n h4 h9).1 (M7 n h4 h9).2 (by omega)
theorem W2(n:Int)(ps:List Fct)(hps: ∀f∈ps,f.Mild)(hs: ∀f∈ps,f.Short2)(hl:ps.length≤1000):
  CallsF Tryz.prog 10 [.c (.int .i64 n),.c (AE ps)] (.tup [.c (.d (AE (factsL (Dp n ps)))),.c (.d (grdsD (BV (BX (Dp n ps)))))]):=
 Sn n ps _ (Ge n ps hps hs).1 (Ge n ps hps hs).2 (Ta n ps hps hs hl)
theorem jad(n:Int)(ps:List Fct)(f:Fct)(hf:f.Mild)(hps: ∀f∈ps,f.Mild)(hs: ∀f∈ps,f.Short2)(hl:ps.length≤1000):
  CallsF Tryz.prog 14 [.c (.int .i64 n),.c (AE ps),.agg f.ds] (.tup (if (normF f).kind=0 then [.c (.d (.slice 0 [])),.c (.d (.bool false))] else [.c (.d (grdsD (Ej (Dp n ps) (normF f)).1)),.c (.d (.bool (Ej (Dp n ps) (normF f)).2))])):=
 VK n ps f hf _ (Ge n ps hps hs).1 (Ge n ps hps hs).2 (Ta n ps hps hs hl)
end Go.Va
namespace Go.Va
open Int (natCast_add natCast_mul natCast_emod natCast_ediv natCast_pow)
open Go.Proofs
theorem jak{p q:Rat}:p.num*q.den=q.num*p.den↔p=q:=Rat.eq_iff_mul_eq_mul.symm
theorem Kl{p q:Rat}{k:Nat}(hp:Bq p k)(hq:Bq q k)(hk:k≤400):CallsF Tryz.prog 172 [.agg (AS p),.agg (AS q)] (.u (.c (.d (.bool (decide (p=q)))))):=by
 have h:=jen (decide (p.num<0)) (decide (q.num<0)) (limbs p.num.natAbs) (limbs p.den) (limbs q.num.natAbs) (limbs q.den) (Ap _) (by have:=hp.ln;omega) (Ap _) (by have:=hp.ld;omega) (Ap _) (by have:=hq.ln;omega) (Ap _) (by have:=hq.ld;omega) (by rw[Am];exact p.den_nz) (by rw[Am];exact q.den_nz)
 rw[Am,Am,Am,Am,C6,C6,decide_eq_decide.2 jak]at h
 exact h
theorem Nm{a b:Pq}{k:Nat}(ha:a.B k)(hb:b.B k)(hk:k≤400):CallsF Tryz.prog 86 [.agg a.ds,.agg b.ds] (.u (.c (.d (.bool (decide (a.x=b.x)&&decide (a.y=b.y)))))):=by
 have k1:=Kl ha.1 hb.1 hk;have k2:=Kl ha.2 hb.2 hk;generalize decide (a.x=b.x)=b1 at*;generalize decide (a.y=b.y)=b2 at*;unfold Pq.ds at*;unfold AS at*;simp only[List.cons_append,List.nil_append]at*;refine Ae (T:=tb) Ad mixed Tryz.func86 rfl (by decide) (Ac rfl) rfl ?_;unfold St.init
 simp -implicitDefEqProofs[jJ,-natCast_add,-natCast_mul]
 (first|refine Aa k1 ?_|refine Al k1 ?_)
 cases b1 with
 |true=>
  simp -implicitDefEqProofs[jJ,-natCast_add,-natCast_mul]
  (first|refine Aa k2 ?_|refine Al k2 ?_)
  simp -implicitDefEqProofs[jJ,-natCast_add,-natCast_mul]
 |false=>simp -implicitDefEqProofs[jJ,-natCast_add,-natCast_mul]
def EU(k:Int):Int:=if k=1 then 2 else if k=2 then 3 else if k=3 then 4 else if k=4 then 0 else -1
theorem WZ(k:Int):CallsF Tryz.prog 171 [.c (.int .i64 k)] (.u (.c (.d (.int .i64 (EU k))))):=by
 unfold EU;refine Ae (T:=tb) Ad mixed Tryz.func171 rfl (by decide) (Ac rfl) rfl ?_;unfold St.init
 by_cases h1:k=1
 ·subst h1;simp -implicitDefEqProofs[jJ,-natCast_add,-natCast_mul]
 by_cases h2:k=2
 ·subst h2;simp -implicitDefEqProofs[jJ,-natCast_add,-natCast_mul]
 by_cases h3:k=3
 ·subst h3;simp -implicitDefEqProofs[jJ,-natCast_add,-natCast_mul]
 by_cases h4:k=4
 ·subst h4;simp -implicitDefEqProofs[jJ,-natCast_add,-natCast_mul]
 simp -implicitDefEqProofs[jJ,-natCast_add,-natCast_mul,h1,h2,h3,h4]
structure CondOk (n:Nat) (k:Int) (l:List Int):Prop where
 kl:k=1∧l.length=2∨k=2∧l.length=3
 ag: ∀a∈l,0≤a∧a<(n:Int)
theorem Y4(k:Int)(l:List Int)(s:Int)(n:Nat)(h:CondOk n k l):CallsF Tryz.prog 85 [.agg [.int .i64 k,intsD l,.int .i64 s],.c (.int .i64 n)] (.u (.c (.d (.int .i64 0)))):=by
 have ka:=WZ k;have hin: ∀i (h:i<l.length),0≤l[i]∧l[i]<n:=fun i hi=>h.ag _ (Ak hi)
 have hA:EU k=l.length:=by
  unfold EU;rcases h.kl with⟨rfl,e⟩|⟨rfl,e⟩<;>rw[e]<;>rfl
 rw[hA]at ka
 have hl3:l.length≤3:=by have:=h.kl;omega
 clear h hA;refine Ae (T:=tb) Ad mixed Tryz.func85 rfl (by decide) (Ac rfl) rfl ?_;unfold St.init
 simp -implicitDefEqProofs[jJ,-natCast_add,-natCast_mul]
 (first|refine Aa ka ?_|refine Al ka ?_)
 simp -implicitDefEqProofs[jJ,-natCast_add,-natCast_mul];refine Av (fun i:Nat=>⟨[(21,vI .i64 i),(20,vI .i64 l.length),(19,vC (.d (intsD l))),(1,vI .i64 n)],[]⟩)
  (fun i=>i≤l.length) (fun i=>l.length - i) 0 (by simp[An,lk,St.le,vI,vC]) (by omega) ?_
 rintro i h2
 by_cases h:i<l.length
 ·obtain⟨g1,g2⟩:=hin i h
  have c1: ¬l[i]<0:=by omega
  have c2: ¬(n:Int)≤l[i]:=by omega
  have e2:(l.drop i)=l[i]::l.drop (i+1):=AD h
  simp -implicitDefEqProofs[jJ,-natCast_add,-natCast_mul,h,c1,c2,i64];exact⟨by omega,by omega,by omega⟩
 ·have hi2:i=l.length:=by omega
  subst hi2;simp -implicitDefEqProofs[jJ,-natCast_add,-natCast_mul]
theorem Ww(k:Int)(l:List Int)(s:Int)(pts:List Pq)(h:CondOk pts.length k l)(hn:pts.length≤1000)(bb:Bool)
  (hv:k=1→ ∀a b:Pq,ptsAt pts l=[a,b]→CallsF Tryz.prog 86 [.agg a.ds,.agg b.ds] (.u (.c (.d (.bool (!bb))))))
  (hv2:k=2→ ∀a b c:Pq,ptsAt pts l=[a,b,c]→ ∃q:Rat,CallsF Tryz.prog 87 [.agg a.ds,.agg b.ds,.agg a.ds,.agg c.ds] (.u (.agg (A7 q)))∧ ∃z:Int,CallsF Tryz.prog 41 [.agg (AS q)] (.u (.c (.d (.int .i64 z))))∧bb=decide (z≠0)):
  CallsF Tryz.prog 42 [.agg [.int .i64 k,intsD l,.int .i64 s],.c (AP pts)] (.tup [.c (.d (.bool bb)),.c (.d (.int .i64 0))]):=by
 have kr:=Y4 k l s pts.length h;have hl3:l.length≤3:=by have:=h.kl;omega
 have hin: ∀i (h:i<l.length),0≤l[i]∧l[i]<pts.length:=fun i hi=>h.ag _ (Ak hi)
 have ek: ∀i (h:i<l.length),ptsAt pts (l.take (i+1))=ptsAt pts (l.take i)++[pts.getD l[i].toNat ⟨0,0⟩]:=fun i h=>by
  unfold ptsAt;rw[AQ h,List.map_append];rfl
 have el: ∀i,i≤l.length→(ptsAt pts (l.take i)).length=i:=fun i h=>by unfold ptsAt;simp;omega
 have ef:ptsAt pts (l.take l.length)=ptsAt pts l:=by rw[AZ]
 have hkl:=h.kl;clear h;refine Ae (T:=tb) Ad mixed Tryz.func42 rfl (by decide) (Ac rfl) rfl ?_;unfold St.init
 simp -implicitDefEqProofs[jJ,-natCast_add,-natCast_mul]
 (first|refine Aa kr ?_|refine Al kr ?_)
 simp -implicitDefEqProofs[jJ,-natCast_add,-natCast_mul];refine BA [(7,30)] (fun i:Nat=>⟨[(20,vI .i64 i),(19,vI .i64 l.length),(18,vC (.d (intsD l))),(7,vC (.sl 7 0 i)),(2,vC (.ptr 2 0)),(1,vC (.d (AP pts)))],[(7,.row 6 ((ptsAt pts (l.take i)).flatMap Pq.ds) true),(2,.box [.d (.int .i64 k),.d (intsD l),.d (.int .i64 s)])]⟩)
  (fun i=>i≤l.length) (fun i=>l.length - i) 0 (by simp[An,lk,St.le,vI,vC,ptsAt]) (by omega) ?_
 rintro i hi
 by_cases h:i<l.length
 ·have hin:=hin i h;have ek:=ek i h;have el:=el i hi;obtain⟨g1,g2⟩:=hin;have ha:l[i].toNat<pts.length:=by omega
  have e2:=Ji ha;have e3:pts.getD l[i].toNat ⟨0,0⟩=pts[l[i].toNat]:=by rw[Ar,Ai ha];rfl
  rw[e3]at ek
  obtain⟨b1,n1,d1,b2,n2,d2,hds⟩: ∃b1 n1 d1 b2 n2 d2,pts[l[i].toNat].ds=[.bool b1,Ab n1,Ab d1,.bool b2,Ab n2,Ab d2]:=⟨_,_,_,_,_,_,rfl⟩
  rw[hds]at e2
  simp only[List.cons_append,List.nil_append]at e2;generalize hp:pts[l[i].toNat]=p at*;generalize hk:l[i]=j at*;have hlt:j<(pts.length:Int):=g2;have hki:j.toNat<pts.length:=ha;clear hv hv2;simp -implicitDefEqProofs[jJ,-natCast_add,-natCast_mul,h,i64,hk,g1,hlt,hki,e2,el];refine⟨⟨by omega,by omega⟩,by omega,i+1,⟨rfl,?_⟩,by omega,by omega⟩
  rw[ek,List.flatMap_append,List.flatMap_cons,List.flatMap_nil,List.append_nil,hds]
 ·have hi2:i=l.length:=by omega
  subst hi2;rw[ef];have e:(ptsAt pts l).length=l.length:=by
   have:=el l.length (by omega)
   rwa [ef]at this
  clear ek el ef hin h hi kr;rcases hkl with⟨rfl,hl⟩|⟨rfl,hl⟩
  ·rw[hl]at e
   generalize ptsAt pts l=P at*;rcases P with _|⟨a,_|⟨b,_|⟨c,P⟩⟩⟩<;>simp at e
   have hv:=hv rfl a b rfl;clear hv2;simp only[hl,List.flatMap_cons,List.flatMap_nil,List.append_nil];obtain⟨b1,n1,d1,b2,n2,d2,hds⟩: ∃b1 n1 d1 b2 n2 d2,a.ds=[.bool b1,Ab n1,Ab d1,.bool b2,Ab n2,Ab d2]:=⟨_,_,_,_,_,_,rfl⟩;obtain⟨c1,o1,f1,c2,o2,f2,hes⟩: ∃b1 n1 d1 b2 n2 d2,b.ds=[.bool b1,Ab n1,Ab d1,.bool b2,Ab n2,Ab d2]:=⟨_,_,_,_,_,_,rfl⟩;rw[hds,hes]at hv ⊢;simp only[List.cons_append,List.nil_append];simp -implicitDefEqProofs[jJ,-natCast_add,-natCast_mul];refine Af (Aj [0,1,3,0,8,24,63,127,255,511]) [.any [] [] (Ao [[7],[36],[37],[7],[39],[40]]),.one,.one,.one,.one] (by rfl) ?_
   simp -implicitDefEqProofs[jJ,-natCast_add,-natCast_mul]
   (first|refine Aa hv ?_|refine Al hv ?_)
   simp -implicitDefEqProofs[jJ,-natCast_add,-natCast_mul]
  ·rw[hl]at e
   generalize ptsAt pts l=P at*;rcases P with _|⟨a,_|⟨b,_|⟨c,_|⟨d,P⟩⟩⟩⟩<;>simp at e
   obtain⟨q,hx,z,hz,hb⟩:=hv2 rfl a b c rfl
   clear hv hv2;subst hb;simp only[hl,List.flatMap_cons,List.flatMap_nil,List.append_nil];obtain⟨b1,n1,d1,b2,n2,d2,hds⟩: ∃b1 n1 d1 b2 n2 d2,a.ds=[.bool b1,Ab n1,Ab d1,.bool b2,Ab n2,Ab d2]:=⟨_,_,_,_,_,_,rfl⟩;obtain⟨c1,o1,f1,c2,o2,f2,hes⟩: ∃b1 n1 d1 b2 n2 d2,b.ds=[.bool b1,Ab n1,Ab d1,.bool b2,Ab n2,Ab d2]:=⟨_,_,_,_,_,_,rfl⟩;obtain⟨g1,p1,h1,g2,p2,h2,hfs⟩: ∃b1 n1 d1 b2 n2 d2,c.ds=[.bool b1,Ab n1,Ab d1,.bool b2,Ab n2,Ab d2]:=⟨_,_,_,_,_,_,rfl⟩;rw[hds,hes,hfs]at hx;rw[hds,hes,hfs];unfold A7 at hx;unfold AS at hz;simp only[List.cons_append,List.nil_append];simp -implicitDefEqProofs[jJ,-natCast_add,-natCast_mul];refine Af (Aj [0,1,3,0,8,24,0,64,192,0,512,1536,4095,8191,16383,32767,65535]) [.any [] [] (Ao [[7],[46],[47],[7],[49],[50],[7],[52],[53],[7],[55],[56]]),.one,.one,.one,.one,.one] (by rfl) ?_
   simp -implicitDefEqProofs[jJ,-natCast_add,-natCast_mul]
   (first|refine Aa hx ?_|refine Al hx ?_)
   simp -implicitDefEqProofs[jJ,-natCast_add,-natCast_mul]
   (first|refine Aa hz ?_|refine Al hz ?_)
   simp -implicitDefEqProofs[jJ,-natCast_add,-natCast_mul]
end Go.Va
namespace Go.Va
open Go.Proofs
theorem H3{a b c d e f g h:Pq}(ha:a.B 2)(hb:b.B 2)(hc:c.B 2)(hd:d.B 2)(he:e.B 2)(hf:f.B 2)(hg:g.B 2)(hh:h.B 2):Bq (leanQ a b c d e f g h) 85:=by
 have v1:(vec a b).B 5:=BB (k:=2) ha hb;have v2:(vec c d).B 5:=BB (k:=2) hc hd;have v3:(vec e f).B 5:=BB (k:=2) he hf;have v4:(vec g h).B 5:=BB (k:=2) hg hh;exact Bq.sub (j:=42) (k:=42) (Bq.mul (j:=21) (k:=21) (DN (k:=5) v1 v2) (D7 (k:=5) v3 v4)) (Bq.mul (j:=21) (k:=21) (DN (k:=5) v3 v4) (D7 (k:=5) v1 v2))
def atW(pts:List Pq)(i:Int):Pq:=pts.getD i.toNat ⟨0,0⟩
theorem E7(pts:List Pq)(al:List Int):ptsAt pts al=al.map (atW pts):=rfl
theorem D1{pts:List Pq}(h: ∀q∈pts,q.B 2){i:Int}(h0:0≤i∧i<pts.length):(atW pts i).B 2:=by
 unfold atW;rw[Ar,Ai (by omega)]
 exact h _ (Ak _)
def Dj(l:List Rat):Bool:=l.all fun q=>decide (q=0)
theorem allZ_van{pts:List Pq}{k:Int}{r:Rat}{al:List Int}:Dj (BD k r (ptsAt pts al))=true↔AB (atW pts) k r al:=by
 unfold Dj AB;rw[jzy,E7];exact⟨fun h v hv=>by simpa using h v hv,fun h v hv=>by simpa using h v hv⟩
theorem Wf(f:Fct)(hf:f.Mild)(pts:List Pq)(hB: ∀q∈pts,q.B 2)(hr:FW f pts.length=0):
  CallsF Tryz.prog 82 [.agg f.ds,.c (AP (ptsAt pts f.args))] (.u (.c (.d (Bt (BD f.kind (Be f) (ptsAt pts f.args))))))∧(∀q∈BD f.kind (Be f) (ptsAt pts f.args),Bq q 100)∧(BD f.kind (Be f) (ptsAt pts f.args)).length≤2:=by
 obtain⟨h1,h2,h3,h4⟩:=Fa hr
 have hd:=C7 (neg:=f.neg) (a:=f.abs) (b:=f.den);have hb4:=fun h=>GK (n:=f.neg) hf.oa hf.od h hf.la hf.ld
 have hcl:=fun h=>FO (n:=f.neg) hf.oa hf.od h
 obtain⟨k,l,n,m,d⟩:=f
 simp only at*;clear hr hf hd;have hW:=fun i (h:0≤i∧i<(pts.length:Int))=>D1 hB h
 rw[E7]
 generalize atW pts=W at*;have one: ∀{q:Rat} {j:Nat},Bq q j→j≤100→(∀x∈[q],Bq x 100)∧[q].length≤2:=fun h hj=>⟨fun x hx=>by rw[List.mem_singleton]at hx;subst hx;exact h.mono hj,by simp⟩
 have two2: ∀{q r:Rat} {j:Nat},Bq q j→Bq r j→j≤100→(∀x∈[q,r],Bq x 100)∧[q,r].length≤2:=fun h h' hj=>⟨fun x hx=>by
  simp only[jzn,AM,or_false]at hx;rcases hx with rfl|rfl
  ·exact h.mono hj
  ·exact h'.mono hj,by simp⟩
 rcases EI h1 with rfl|rfl|rfl|rfl|rfl|rfl|rfl|rfl|rfl
 ·rcases l with _|⟨a,_|⟨b,_|⟨c,_|⟨v,l⟩⟩⟩⟩<;>simp[arity]at h2
  have ha:=hW a (h3 a (by simp))
  have hb:=hW b (h3 b (by simp))
  have hc:=hW c (h3 c (by simp))
  simp only[List.map_cons,List.map_nil];generalize W a=A at*;generalize W b=B at*;generalize W c=C at*;exact⟨R2 (b:=B) _ n m d ha hb hc,one (DN (k:=5) (BB (k:=2) ha hb) (BB (k:=2) ha hc)) (by omega)⟩
 ·rcases l with _|⟨a,_|⟨b,_|⟨c,_|⟨e,_|⟨v,l⟩⟩⟩⟩⟩<;>simp[arity]at h2
  have ha:=hW a (h3 a (by simp))
  have hb:=hW b (h3 b (by simp))
  have hc:=hW c (h3 c (by simp))
  have he:=hW e (h3 e (by simp))
  simp only[List.map_cons,List.map_nil];generalize W a=A at*;generalize W b=B at*;generalize W c=C at*;generalize W e=E at*;exact⟨Pc _ n m d ha hb hc he,one (DN (k:=5) (BB (k:=2) ha hb) (BB (k:=2) hc he)) (by omega)⟩
 ·rcases l with _|⟨a,_|⟨b,_|⟨c,_|⟨e,_|⟨v,l⟩⟩⟩⟩⟩<;>simp[arity]at h2
  have ha:=hW a (h3 a (by simp))
  have hb:=hW b (h3 b (by simp))
  have hc:=hW c (h3 c (by simp))
  have he:=hW e (h3 e (by simp))
  simp only[List.map_cons,List.map_nil];generalize W a=A at*;generalize W b=B at*;generalize W c=C at*;generalize W e=E at*;exact⟨M8 _ n m d ha hb hc he,one (D7 (k:=5) (BB (k:=2) ha hb) (BB (k:=2) hc he)) (by omega)⟩
 ·rcases l with _|⟨a,_|⟨b,_|⟨c,_|⟨e,_|⟨v,l⟩⟩⟩⟩⟩<;>simp[arity]at h2
  have ha:=hW a (h3 a (by simp))
  have hb:=hW b (h3 b (by simp))
  have hc:=hW c (h3 c (by simp))
  have he:=hW e (h3 e (by simp))
  simp only[List.map_cons,List.map_nil];generalize W a=A at*;generalize W b=B at*;generalize W c=C at*;generalize W e=E at*;exact⟨Nz _ n m d ha hb hc he,one (Bq.sub (j:=21) (k:=21) (Dw (k:=2) ha hb) (Dw (k:=2) hc he)) (by omega)⟩
 ·rcases l with _|⟨a,_|⟨b,_|⟨c,_|⟨v,l⟩⟩⟩⟩<;>simp[arity]at h2
  have ha:=hW a (h3 a (by simp))
  have hb:=hW b (h3 b (by simp))
  have hc:=hW c (h3 c (by simp))
  simp only[List.map_cons,List.map_nil];generalize W a=A at*;generalize W b=B at*;generalize W c=C at*;refine⟨Pe _ n m d ha hb hc,two2 (j:=9) (Bq.sub (j:=5) (k:=3) (Bq.add (j:=2) (k:=2) hb.1 hc.1) (Bq.mul (j:=1) (k:=2) Hj ha.1)) (Bq.sub (j:=5) (k:=3) (Bq.add (j:=2) (k:=2) hb.2 hc.2) (Bq.mul (j:=1) (k:=2) Hj ha.2)) (by omega)⟩
 ·rcases l with _|⟨a,_|⟨b,_|⟨c,_|⟨e,_|⟨v,l⟩⟩⟩⟩⟩<;>simp[arity]at h2
  have ha:=hW a (h3 a (by simp))
  have hb:=hW b (h3 b (by simp))
  have hc:=hW c (h3 c (by simp))
  have he:=hW e (h3 e (by simp))
  simp only[List.map_cons,List.map_nil];generalize W a=A at*;generalize W b=B at*;generalize W c=C at*;generalize W e=E at*;exact⟨XJ _ n m d ha hb hc he,one (H3 hb ha hb hc he ha he hc) (by omega)⟩
 ·rcases l with _|⟨a,_|⟨b,_|⟨c,_|⟨e,_|⟨a',_|⟨b',_|⟨c',_|⟨e',_|⟨v,l⟩⟩⟩⟩⟩⟩⟩⟩⟩<;>simp[arity]at h2
  have ha:=hW a (h3 a (by simp))
  have hb:=hW b (h3 b (by simp))
  have hc:=hW c (h3 c (by simp))
  have he:=hW e (h3 e (by simp))
  have ha':=hW a' (h3 a' (by simp))
  have hb':=hW b' (h3 b' (by simp))
  have hc':=hW c' (h3 c' (by simp))
  have he':=hW e' (h3 e' (by simp))
  simp only[List.map_cons,List.map_nil];exact⟨PP _ n m d ha hb hc he ha' hb' hc' he',one (H3 ha hb hc he ha' hb' hc' he') (by omega)⟩
 ·rcases l with _|⟨a,_|⟨b,_|⟨v,l⟩⟩⟩<;>simp[arity]at h2
  have ha:=hW a (h3 a (by simp))
  have hb:=hW b (h3 b (by simp))
  simp only[List.map_cons,List.map_nil];exact⟨Sj _ n m d ha hb,two2 (j:=5) (Bq.sub (j:=2) (k:=2) ha.1 hb.1) (Bq.sub (j:=2) (k:=2) ha.2 hb.2) (by omega)⟩
 ·rcases l with _|⟨a,_|⟨b,_|⟨c,_|⟨e,_|⟨v,l⟩⟩⟩⟩⟩<;>simp[arity]at h2
  have ha:=hW a (h3 a (by simp))
  have hb:=hW b (h3 b (by simp))
  have hc:=hW c (h3 c (by simp))
  have he:=hW e (h3 e (by simp))
  rw[if_pos rfl]at h4
  have hb4:=hb4 h4;have hcl:=hcl h4;have er:Be ⟨9,[a,b,c,e],n,m,d⟩=mkRat (toZ n (val m)) (val d):=rfl;rw[er];generalize mkRat (toZ n (val m)) (val d)=r at*;simp only[List.map_cons,List.map_nil];have hv:=K6 [a,b,c,e] n m d ha hb hc he hb4;unfold AS at hcl;rw[List.cons.injEq,List.cons.injEq,List.cons.injEq]at hcl;obtain⟨q1,q2,q3,_⟩:=hcl;rw[←q1,←q2,←q3]at hv;exact⟨hv,one (Bq.sub (j:=21) (k:=25) (Dw (k:=2) ha hb) (Bq.mul (j:=4) (k:=21) hb4 (Dw (k:=2) hc he))) (by omega)⟩
theorem I2(f:Fct)(hf:f.Mild)(pts:List Pq)(hB: ∀q∈pts,q.B 2)(hn:pts.length≤1000):
  CallsF Tryz.prog 23 [.agg f.ds,.c (AP pts)] (.tup [.c (.d (.bool (decide (FW f pts.length=0)&&Dj (BD f.kind (Be f) (ptsAt pts f.args))))),.c (.d (.int .i64 (FW f pts.length)))]):=by
 by_cases hr:FW f pts.length=0
 ·obtain⟨hv,hb,hl⟩:=Wf f hf pts hB hr
  have:=OB f (AP pts) _ (by omega) hb (Ws f hf pts hn hr _ hv)
  rw[hr]
  exact this
 ·rw[decide_eq_false hr]
  exact XP f (AP pts) _ hr _ (UM f hf pts hr)
end Go.Va
namespace Go.Va
open Int (natCast_add natCast_mul natCast_emod natCast_ediv natCast_pow)
open Go.Proofs
def BU(W:Int→Pq)(k:Int)(l:List Int):Bool:=
 if k=1 then (match l with|[a,b]=> !(decide ((W a).x=(W b).x)&&decide ((W a).y=(W b).y))|_=>true)
 else (match l with|[a,b,c]=>decide ((vec (W a) (W b)).cross (vec (W a) (W c))≠0)|_=>true)
theorem guaB_iff{W:Int→Pq}{k:Int}{l:List Int}:BU W k l=true↔BW W k l:=by
 unfold BU BW;split
 ·split
  ·rename_i a b
   by_cases h:(W a).x=(W b).x<;>simp[h]
  ·simp
 ·split
  ·simp
  ·simp
theorem Tb(k:Int)(l:List Int)(s:Int)(pts:List Pq)(hB: ∀q∈pts,q.B 2)(h:CondOk pts.length k l)(hn:pts.length≤1000):
  CallsF Tryz.prog 42 [.agg [.int .i64 k,intsD l,.int .i64 s],.c (AP pts)] (.tup [.c (.d (.bool (BU (atW pts) k l))),.c (.d (.int .i64 0))]):=by
 refine Ww k l s pts h hn _ (fun hk a b e=> ?_) (fun hk a b c e=> ?_)
 ·subst hk;have hag:=h.ag;rcases l with _|⟨i,_|⟨j,_|⟨v,l⟩⟩⟩<;>rw[E7]at e<;>simp at e
  obtain⟨rfl,rfl⟩:=e
  have:=Nm (k:=2) (D1 hB (hag i (by simp))) (D1 hB (hag j (by simp))) (by omega)
  unfold BU;rw[if_pos rfl,Bool.not_not];exact this
 ·subst hk;have hag:=h.ag;rcases l with _|⟨i,_|⟨j,_|⟨m,_|⟨v,l⟩⟩⟩⟩<;>rw[E7]at e<;>simp at e
  obtain⟨rfl,rfl,rfl⟩:=e
  have hi:=D1 hB (hag i (by simp))
  have hj:=D1 hB (hag j (by simp))
  have hm:=D1 hB (hag m (by simp))
  refine⟨_,EL (k:=2) hi hj hi hm (by omega),_,HH (k:=21) (DN (k:=5) (BB (k:=2) hi hj) (BB (k:=2) hi hm)) (by omega),?_⟩
  unfold BU;rw[if_neg (by decide)]
  simp only[ne_eq,H6]
theorem Mt(l:List Grd)(pts:List Pq)(hB: ∀q∈pts,q.B 2)(hn:pts.length≤1000)(hl: ∀g∈l,CondOk pts.length g.kind g.args)(hll:l.length≤1000):
  CallsF Tryz.prog 24 [.c (grdsD l),.c (AP pts)] (.u (.c (.d (.bool (l.all fun g=>BU (atW pts) g.kind g.args))))):=by
 have ks:=fun i (h:i<l.length)=>Tb l[i].kind l[i].args 0 pts hB (hl _ (Ak h)) hn
 have hfin:(∀j (h:j<l.length),BU (atW pts) l[j].kind l[j].args=true)→(l.all fun g=>BU (atW pts) g.kind g.args)=true:=fun h3=>by
  rw[jzy]
  intro x hx;obtain⟨j,hj,rfl⟩:=List.mem_iff_getElem.1 hx;exact h3 j hj
 have hcl: ∀i (h:i<l.length),BU (atW pts) l[i].kind l[i].args=false→(l.all fun g=>BU (atW pts) g.kind g.args)=false:=fun i h hn=>by
  rw[List.all_eq_false]
  exact⟨_,Ak h,by simpa using hn⟩
 generalize (l.all fun g=>BU (atW pts) g.kind g.args)=ba at*
 clear hB hl;refine Ae (T:=tb) Ad mixed Tryz.func24 rfl (by decide) (Ac rfl) rfl ?_;unfold St.init
 simp -implicitDefEqProofs[jJ,-natCast_add,-natCast_mul];refine Av (fun i:Nat=>⟨[(5,vI .i64 i),(0,vC (.d (grdsD l))),(1,vC (.d (AP pts)))],[]⟩)
  (fun i=>i≤l.length∧ ∀j (h:j<l.length),j<i→BU (atW pts) l[j].kind l[j].args=true) (fun i=>l.length - i) 0 (by simp[An,lk,St.le,vI,vC]) ⟨by omega,fun j h hj=>by omega⟩ ?_
 rintro i ⟨h2,h3⟩
 by_cases h:i<l.length
 ·have e2:=F8 h;have ks:=ks i h;have hcl:=hcl i h;have h4: ∀j (hj:j<l.length),j<i+1→BU (atW pts) l[i].kind l[i].args=true→BU (atW pts) l[j].kind l[j].args=true:=fun j hj hp e1=>if e:j=i then by subst e;exact e1 else h3 j hj (by omega)
  simp -implicitDefEqProofs[jJ,-natCast_add,-natCast_mul,h];refine Af (Aj [0,0,3,7,15,0,0,96,224,480,1023,0,4095,8191,16383,16383,32767,131071]) [.any [] [] (Ao [[0],[5],[15,16],[17],[18],[0],[5],[20,21],[22],[23],[19,24],[1]]),.one,.one,.any [] [] (Ao [[14],[14],[28]]),.one] (by rfl) ?_
  simp -implicitDefEqProofs[jJ,-natCast_add,-natCast_mul,h,e2];cases b1:BU (atW pts) l[i].kind l[i].args with
  |false=>
   rw[b1]at ks hcl
   have hcl:=hcl rfl;subst hcl
   (first|refine Aa ks ?_|refine Al ks ?_)
   simp -implicitDefEqProofs[jJ,-natCast_add,-natCast_mul]
  |true=>
   rw[b1]at ks
   (first|refine Aa ks ?_|refine Al ks ?_)
   simp -implicitDefEqProofs[jJ,-natCast_add,-natCast_mul];exact⟨by omega,⟨by omega,fun j hj hp=>h4 j hj hp b1⟩,by omega⟩
 ·have hi2:i=l.length:=by omega
  subst hi2;have hany:=hfin fun j hj=>h3 j hj hj
  subst hany;simp -implicitDefEqProofs[jJ,-natCast_add,-natCast_mul]
end Go.Va
