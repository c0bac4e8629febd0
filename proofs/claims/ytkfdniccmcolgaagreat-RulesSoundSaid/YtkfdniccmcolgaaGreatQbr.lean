/- a part of the proof -/
import Derived.Test.YtkfdniccmcolgaaGreatQbo
import Derived.Test.YtkfdniccmcolgaaGreatQbp
import Derived.Test.YtkfdniccmcolgaaGreatQbq
set_option linter.all false
set_option maxHeartbeats 4000000
set_option maxRecDepth 100000
namespace Go.Va
open Go.Proofs
theorem JK{f:Fct}{n:Int}(hm:f.Mild)(hn:n≤40)(h:FW f n=0):f.Rt:=by
 obtain⟨h1,h2,h3,h4⟩:=Fa h
 refine⟨?_,hm⟩
 unfold AK FW;rw[if_neg h1,if_neg (by omega),if_neg]
 ·by_cases h9:f.kind=9
  ·rw[if_pos h9]at h4
   rw[if_pos h9,if_pos h4]
   rfl
  ·rw[if_neg h9]at h4
   rw[if_neg h9,h4.1,h4.2.1,h4.2.2]
   rfl
 ·simp only[List.any_eq_true,not_exists,Bool.or_eq_true,decide_eq_true_eq,not_and,not_or];intro a ha;have:=h3 a ha;omega
theorem OM{f:Fct}{n:Int}(h:f.Rt)(ha: ∀a∈f.args,a<n):FW f n=0:=by
 obtain⟨h1,h2,h3,h4⟩:=h.parts
 unfold FW;rw[if_neg h1,if_neg (by omega),if_neg]
 ·by_cases h9:f.kind=9
  ·rw[if_pos h9]at h4
   rw[if_pos h9,if_pos h4]
  ·rw[if_neg h9]at h4
   rw[if_neg h9,h4.1,h4.2.1,h4.2.2]
   rfl
 ·simp only[List.any_eq_true,not_exists,Bool.or_eq_true,decide_eq_true_eq,not_and,not_or];intro a h;have:=h3 a h;have:=ha a h;omega
theorem PO{W:Int→Pq}{n:Int}{f:Fct}(hn:n≤40)(hm:f.Mild)(h:FW f n=0)(hv:AB W f.kind (Be f) f.args):Sat W n (normF f)∧((normF f).kind=9→val (normF f).den≠0):=by
 have hrt:=JK hm hn h;obtain⟨h1,h2,h3,h4⟩:=Fa h;have e:normF f=normG f:=by unfold normF;rw[if_pos hrt.ok]
 have hg:=HW hrt;obtain⟨g1,g2,g3,g4⟩:=hg.parts;rw[e];refine⟨⟨g1,g2,fun a ha=> ?_,?_⟩,fun h9=> ?_⟩
 ·exact Kp (P:=fun a=>0≤a∧a<n) h1 h2 h3 a ha
 ·refine Ib h1 h2 h4 (fun h9=> ?_) Am hv
  rw[if_pos h9]at h4
  exact(C7 h4 hm.oa hm.od).2.2.1
 ·rw[if_pos h9]at g4
  exact(C7 g4 hg.mild.oa hg.mild.od).2.2.1
theorem F2{nl:List Fct}{P:List AR}(hP: ∀x∈P,FY x): ∀x∈CU DH (runF nl [] P),∃y∈P,normF y.1=x.fact∧y.2=x.grds∧x.fact.kind≠0:=by
 intro x hx;have hx:=(DV (cf:=DH) (runF nl [] P)).mem_iff.1 hx;obtain⟨⟨y,hy,e1,e2⟩,h⟩:=(PC hP).sub x hx;exact⟨y,hy,e1,e2,fun h0=>h (.inl h0)⟩
theorem Ik{l:List Fct}(h: ∀f∈l,f.Mild): ∀x∈l.map fun f=>(f,([]:List Grd)),FY x:=by
 intro x hx;obtain⟨f,hf,rfl⟩:=jzk.1 hx;exact⟨h f hf,by simp,by simp⟩
theorem FU{nl:List Fct}{n:Int}{ps:List Fct}(h: ¬((rulT n).name=[]∨(ps.length:Int)≠(rulT n).count)):(ps.length:Int)=(rulT n).count:=by
 exact Classical.not_not.1 fun e=>h (.inr e)
theorem KR{W:Int→Pq}{N:Int}(hN:0≤N)(hN4:N≤40)(n:Int)(ps:List Fct)(hps: ∀f∈ps,f.Mild)(hs: ∀f∈ps,f.Short2)(hw: ∀f∈ps,FW f N=0∧AB W f.kind (Be f) f.args):
  ∀x∈Dp n ps,∃y:AR,normF y.1=x.fact∧y.2=x.grds∧x.fact.kind≠0∧y.1.Mild∧Good W N y:=by
 have hsat: ∀f∈ps.map normF,Sat W N f∧(f.kind=9→val f.den≠0):=fun f hf=>by
  obtain⟨g,hg,rfl⟩:=jzk.1 hf
  exact PO hN4 (hps g hg) (hw g hg).1 (hw g hg).2
 have hrt: ∀f∈ps.map normF,f.Rt:=fun f hf=>by
  obtain⟨g,hg,rfl⟩:=jzk.1 hf
  have h0:=JK (hps g hg) hN4 (hw g hg).1;have e:normF g=normG g:=by unfold normF;rw[if_pos h0.ok]
  rw[e]
  exact HW h0
 have hkind: ∀f∈ps,(normF f).kind≠0:=fun f hf h0=>by
  have:=(hsat _ (jzk.2 ⟨f,hf,rfl⟩)).1.ar
  rw[h0]at this
  exact this rfl
 have Ah: ∀m:Int,(rulT m).count=2→(ps.length:Int)=(rulT m).count→ ∃p q,ps=[p,q]:=fun m hm h=>by
  match ps,(by rw[hm]at h;omega:ps.length=2)with
  |[p,q],_=>exact⟨p,q,rfl⟩
 intro x hx;unfold Dp at hx;split at hx
 ·unfold Cl at hx;split at hx
  ·cases hx
  rename_i hc
  split at hx
  ·cases hx
  obtain⟨p,q,e⟩:=Ah 4 rfl (FU (nl:=ps) hc)
  obtain⟨hm,_⟩:=NF hps hs p q e hkind
  obtain⟨y,hy,e1,e2,e3⟩:=F2 (Ik hm) x hx
  refine⟨y,e1,e2,e3,?_,Tu (fun f hf=>(hsat f hf).1) (fun f hf=>(hsat f hf).2) Am y hy⟩
  obtain⟨f,hf,rfl⟩:=jzk.1 hy
  exact hm f hf
 split at hx
 ·unfold Cl at hx;split at hx
  ·cases hx
  rename_i hc
  split at hx
  ·cases hx
  obtain⟨p,q,e⟩:=Ah 9 rfl (FU (nl:=ps) hc)
  obtain⟨hm,_⟩:=MB hps p q e hkind
  obtain⟨y,hy,e1,e2,e3⟩:=F2 (Ik hm) x hx
  refine⟨y,e1,e2,e3,?_,Wo (fun f hf=>(hsat f hf).1) y hy⟩
  obtain⟨f,hf,rfl⟩:=jzk.1 hy
  exact hm f hf
 ·rename_i h4 h9
  unfold CG at hx;split at hx
  ·cases hx
  rename_i hc
  split at hx
  ·cases hx
  have hlen:=FU (nl:=ps) hc;rw[(M7 n h4 h9).2]at hlen;have hgood:=Ih n;have hok:=Jw (rulT n) hgood (ps.map normF) hrt;unfold Gn at hx;obtain⟨y,hy,e1,e2,e3⟩:=F2 hok x hx;refine⟨y,e1,e2,e3,(hok y hy).1,?_⟩;refine Xz hN (fun p hp=>(hgood.fit p hp).1) (r:=rulT n) ?_ (fun b=> ?_) Am (fun f hf=>(hsat f hf).1) (by rw[List.length_map];omega) y hy
  ·exact PY n.toNat
  ·exact Yr W b n.toNat
theorem Sd{W:Int→Pq}{N:Nat}(hN4:N≤40)(n:Int)(ps:List Fct)(hps: ∀f∈ps,f.Mild)(hs: ∀f∈ps,f.Short2)(hw: ∀f∈ps,FW f N=0∧AB W f.kind (Be f) f.args):
  ∀x∈Dp n ps,FW x.fact N=0∧(∀g∈x.grds,CondOk N g.kind g.args)∧((∀g∈x.grds,BW W g.kind g.args)→AB W x.fact.kind (Be x.fact) x.fact.args):=by
 intro x hx;have hrt:=(Ge n ps hps hs).1.rt x hx;obtain⟨y,e1,e2,e3,hm,hg⟩:=KR (N:=N) (by omega) (by omega) n ps hps hs hw x hx
 have hy:y.1.Rt:=by
  refine⟨?_,hm⟩
  rw[←e1]at e3
  unfold normF at e3;split at e3
  ·assumption
  ·exact absurd rfl e3
 have en:normF y.1=normG y.1:=by unfold normF;rw[if_pos hy.ok]
 obtain⟨g1,g2,g3,g4⟩:=hy.parts
 rw[en]at e1
 refine⟨OM hrt ?_,?_,fun hgu=> ?_⟩
 ·rw[←e1]
  exact Kp (P:=fun a=>a<(N:Int)) g1 g2 hg.lt
 ·rw[←e2]
  exact fun g h=>⟨(hg.gs g h).1,(hg.gs g h).2⟩
 ·rw[←e1]
  refine Ib g1 g2 g4 (fun h9=> ?_) Am (hg.vn (by rw[e2];exact hgu))
  rw[if_pos h9]at g4
  exact(C7 g4 hm.oa hm.od).2.2.1
theorem Oj{n:Int}{ps:List Fct}(hps: ∀f∈ps,f.Mild)(hs: ∀f∈ps,f.Short2)(hn: ∀x∈Dp n ps,normF x.fact=x.fact)(i:Nat)(h:i<(Dp n ps).length):
  ∃x∈Dp n ps,x.fact=((Dp n ps)[i]).fact∧Ej (Dp n ps) (normF ((Dp n ps)[i]).fact)=(x.grds,true)∧(normF ((Dp n ps)[i]).fact).kind≠0:=by
 have hok:=(Ge n ps hps hs).1;have hi:=Ak h;rw[hn _ hi];have hz:=fun x (hx:x∈Dp n ps)=>Et (hok.rt x hx) (hok.rt _ hi)
 have hk:((Dp n ps)[i]).fact.kind≠0:=fun h0=>by
  have:=(hok.rt _ hi).parts.1
  rw[h0]at this
  exact this rfl
 unfold Ej;cases hf:(Dp n ps).find? (fun x=>decide (Aw x.fact ((Dp n ps)[i]).fact=0))with
 |none=>
  rw[List.find?_eq_none]at hf
  have:=hf _ hi
  rw[decide_eq_true_eq]at this
  exact absurd ((hz _ hi).2 rfl) this
 |some x=>
  have h1:=List.mem_of_find?_eq_some hf;have h2:=List.find?_some hf;rw[decide_eq_true_eq]at h2;exact⟨x,h1,(hz x h1).1 h2,rfl,hk⟩
theorem Uo{W:Int→Pq}{N:Nat}(hN4:N≤40)(n:Int)(ps:List Fct)(hps: ∀f∈ps,f.Mild)(hs: ∀f∈ps,f.Short2)(hw: ∀f∈ps,FW f N=0∧AB W f.kind (Be f) f.args): ∀x∈Dp n ps,normF x.fact=x.fact:=by
 intro x hx;obtain⟨y,e1,e2,e3,hm,hg⟩:=KR (N:=N) (by omega) (by omega) n ps hps hs hw x hx
 have hy:y.1.Rt:=by
  refine⟨?_,hm⟩
  rw[←e1]at e3
  unfold normF at e3;split at e3
  ·assumption
  ·exact absurd rfl e3
 rw[←e1]
 exact OE hy
end Go.Va
namespace Go.Va
open Int (natCast_add natCast_mul natCast_emod natCast_ediv natCast_pow)
open Go.Proofs
def GA(f:Fct):Bool:=decide (f.args.length≤20)&&decide (f.abs.length≤2)&&decide (f.den.length≤2)
def Dl(l:List Fct):Bool:=decide (l.length≤4)&&l.all GA
theorem jan(l:List Fct)(hl:l.length≤1099511627776):CallsF Tryz.prog 8 [.c (AE l)] (.u (.c (.d (.bool (Dl l))))):=by
 unfold Dl;refine Ae (T:=tb) Ad mixed Tryz.func8 rfl (by decide) (Ac rfl) rfl ?_;unfold St.init
 by_cases h4:l.length≤4
 ·rw[decide_eq_true h4,Bool.true_and]
  have h4': ¬4<l.length:=by omega
  simp -implicitDefEqProofs[jJ,-natCast_add,-natCast_mul,h4,h4'];refine Av (fun i:Nat=>⟨[(3,vI .i64 i),(0,vC (.d (AE l)))],[]⟩) (fun i=>i≤l.length∧(l.take i).all GA=true) (fun i=>l.length - i) 0 (by simp[An,lk,St.le,vI,vC]) ⟨by omega,by simp⟩ ?_
  rintro i ⟨hi,he⟩
  by_cases h:i<l.length
  ·have ea:=DO h;have hm:GA l[i]=(decide (l[i].args.length≤20)&&decide (l[i].abs.length≤2)&&decide (l[i].den.length≤2)):=rfl;have hno:GA l[i]=false→l.all GA=false:=fun h0=>by
    rw[Bool.eq_false_iff]
    intro hc;rw[jzy]at hc;rw[hc _ (Ak h)]at h0;cases h0
   by_cases c1:l[i].args.length≤20
   ·by_cases c2:l[i].abs.length≤2
    ·by_cases c3:l[i].den.length≤2
     ·rw[decide_eq_true c1,decide_eq_true c2,decide_eq_true c3]at hm
      have d1: ¬20<l[i].args.length:=by omega
      have d2: ¬2<l[i].abs.length:=by omega
      have d3: ¬2<l[i].den.length:=by omega
      simp -implicitDefEqProofs[jJ,-natCast_add,-natCast_mul,h,ea,d1,d2,d3];refine⟨by omega,⟨by omega,?_⟩,by omega⟩
      have e:(l.take (i+1)).all GA=true:=by
       rw[AQ h,List.all_append,he]
       simp[hm]
      simpa using e
     ·rw[decide_eq_false c3,Bool.and_false]at hm
      rw[hno hm]
      have d1: ¬20<l[i].args.length:=by omega
      have d2: ¬2<l[i].abs.length:=by omega
      have d3:2<l[i].den.length:=by omega
      simp -implicitDefEqProofs[jJ,-natCast_add,-natCast_mul,h,ea,d1,d2,d3]
    ·rw[decide_eq_false c2,Bool.and_false,Bool.false_and]at hm
     rw[hno hm]
     have d1: ¬20<l[i].args.length:=by omega
     have d2:2<l[i].abs.length:=by omega
     simp -implicitDefEqProofs[jJ,-natCast_add,-natCast_mul,h,ea,d1,d2]
   ·rw[decide_eq_false c1,Bool.false_and,Bool.false_and]at hm
    rw[hno hm]
    have d1:20<l[i].args.length:=by omega
    simp -implicitDefEqProofs[jJ,-natCast_add,-natCast_mul,h,ea,d1]
  ·have hi2:i=l.length:=by omega
   subst hi2;rw[AZ]at he;rw[he];simp -implicitDefEqProofs[jJ,-natCast_add,-natCast_mul,h]
 ·rw[decide_eq_false h4,Bool.false_and]
  have h4':4<l.length:=by omega
  simp -implicitDefEqProofs[jJ,-natCast_add,-natCast_mul,h4']
theorem XY{l:List Fct}(h:Dl l=true)(ho: ∀f∈l,Ok f.abs∧Ok f.den):l.length≤4∧(∀f∈l,f.Mild)∧ ∀f∈l,f.Short2:=by
 unfold Dl at h;simp only[Ax,decide_eq_true_eq,jzy]at h;refine⟨h.1,fun f hf=> ?_,fun f hf=> ?_⟩
 ·have h2:=h.2 f hf;unfold GA at h2;simp only[Ax,decide_eq_true_eq]at h2;exact⟨by omega,by omega,(ho f hf).1,(ho f hf).2,by omega⟩
 ·have h2:=h.2 f hf;unfold GA at h2;simp only[Ax,decide_eq_true_eq]at h2;exact⟨h2.1.2,h2.2⟩
theorem Zr(l:List Fct):CallsF Tryz.prog 8 [.c (AE l)] (.u (.c (.d (.bool (Dl l))))):=by
 by_cases h4:l.length≤4
 ·exact jan l (by omega)
 ·have e:Dl l=false:=by unfold Dl;rw[decide_eq_false h4];rfl
  rw[e]
  have h5:4<l.length:=by omega
  refine Ae (T:=tb) Ad mixed Tryz.func8 rfl (by decide) (Ac rfl) rfl ?_;unfold St.init
  simp -implicitDefEqProofs[jJ,-natCast_add,-natCast_mul,h4,h5]
theorem ZX(n:Int)(ps:List Fct)(hps: ∀f∈ps,f.Mild)(hs: ∀f∈ps,f.Short2)(hl:ps.length≤1000)(pts:List Pq)(hB: ∀q∈pts,q.B 2)(hn:pts.length≤10)
  (hw: ∀f∈ps,FW f pts.length=0∧Dj (BD f.kind (Be f) (ptsAt pts f.args))=true) (i:Nat) (h:i<(factsL (Dp n ps)).length):
  ∃(G:List Grd) (b hb:Bool),CallsF Tryz.prog 14 [.c (.int .i64 n),.c (AE ps),.agg (factsL (Dp n ps))[i].ds] (.tup [.c (.d (grdsD G)),.c (.d (.bool true))])∧
   CallsF Tryz.prog 23 [.agg (factsL (Dp n ps))[i].ds,.c (AP pts)] (.tup [.c (.d (.bool b)),.c (.d (.int .i64 0))])∧
   CallsF Tryz.prog 24 [.c (grdsD G),.c (AP pts)] (.u (.c (.d (.bool hb))))∧(b=true∨hb=false):=by
 have hw2: ∀f∈ps,FW f pts.length=0∧AB (atW pts) f.kind (Be f) f.args:=fun f hf=>⟨(hw f hf).1,allZ_van.1 (hw f hf).2⟩
 have hok:=(Ge n ps hps hs).1;have hnm:=Uo (N:=pts.length) (by omega) n ps hps hs hw2
 have hsd:=Sd (N:=pts.length) (by omega) n ps hps hs hw2
 have h':i<(Dp n ps).length:=by unfold factsL at h;rwa [List.length_map]at h
 have e:(factsL (Dp n ps))[i]=((Dp n ps)[i]).fact:=by simp[factsL]
 rw[e]
 have hm:=(hok.rt _ (Ak h')).mild;have kf:=jad n ps ((Dp n ps)[i]).fact hm hps hs hl;obtain⟨x,hx,e1,e2,e3⟩:=Oj hps hs hnm i h';rw[if_neg e3,e2]at kf;obtain⟨s1,s2,s3⟩:=hsd x hx;have kh:=I2 ((Dp n ps)[i]).fact hm pts hB (by omega)
 rw[←e1]at kf kh ⊢
 rw[s1,decide_eq_true rfl,Bool.true_and]at kh
 have kg:=Mt x.grds pts hB (by omega) s2 (by have:=(hok.sh x hx).1;omega)
 refine⟨x.grds,_,_,kf,kh,kg,?_⟩
 by_cases hall:(x.grds.all fun g=>BU (atW pts) g.kind g.args)=true
 ·left
  rw[jzy]at hall
  exact allZ_van.2 (s3 fun g hg=>guaB_iff.1 (hall g hg))
 ·right
  simpa using hall
theorem Li(n:Int)(ps:List Fct)(ho: ∀f∈ps,Ok f.abs∧Ok f.den)(rp:List Rp)(hr: ∀p∈rp,p.Ok):CallsF Tryz.prog 7 [.c (.int .i64 n),.c (AE ps),.c (CF rp)] (.u (.c (.d (.bool true)))):=by
 have km:=Zr ps;have kp:=NV rp hr;have aw:=TX;cases hm:Dl ps with
 |false=>
  rw[hm]at km
  refine Ae (T:=tb) Ad mixed Tryz.func7 rfl (by decide) (Ac rfl) rfl ?_;unfold St.init
  simp -implicitDefEqProofs[jJ,-natCast_add,-natCast_mul]
  (first|refine Aa km ?_|refine Al km ?_)
  simp -implicitDefEqProofs[jJ,-natCast_add,-natCast_mul]
  (first|refine Aa aw ?_|refine Al aw ?_)
  simp -implicitDefEqProofs[jJ,-natCast_add,-natCast_mul]
 |true=>
  rw[hm]at km
  obtain⟨m1,m2,m3⟩:=XY hm ho
  cases hq:ET rp with
  |false=>
   rw[hq]at kp
   refine Ae (T:=tb) Ad mixed Tryz.func7 rfl (by decide) (Ac rfl) rfl ?_;unfold St.init
   simp -implicitDefEqProofs[jJ,-natCast_add,-natCast_mul]
   (first|refine Aa km ?_|refine Al km ?_)
   simp -implicitDefEqProofs[jJ,-natCast_add,-natCast_mul]
   (first|refine Aa kp ?_|refine Al kp ?_)
   simp -implicitDefEqProofs[jJ,-natCast_add,-natCast_mul]
   (first|refine Aa aw ?_|refine Al aw ?_)
   simp -implicitDefEqProofs[jJ,-natCast_add,-natCast_mul]
  |true=>
   rw[hq]at kp
   obtain⟨q1,q2,q3⟩:=Rg hr hq
   have q4:(rp.map Rp.pq).length≤10:=by rw[List.length_map];exact q3
   rw[q1]at kp ⊢
   generalize rp.map Rp.pq=pts at*;have kh:=fun i (h:i<ps.length)=>I2 ps[i] (m2 _ (Ak h)) pts q2 (by omega)
   have key:=ZX n ps m2 m3 (by omega) pts q2 q4
   have ka:=W2 n ps m2 m3 (by omega)
   have hfl:(factsL (Dp n ps)).length≤100000000000:=by
    unfold factsL;rw[List.length_map];exact(Ge n ps m2 m3).2
   clear ho hr hm hq q1 q2 m2 m3;generalize grdsD (BV (BX (Dp n ps)))=da at*;refine Ae (T:=tb) Ad mixed Tryz.func7 rfl (by decide) (Ac rfl) rfl ?_;unfold St.init
   simp -implicitDefEqProofs[jJ,-natCast_add,-natCast_mul]
   (first|refine Aa km ?_|refine Al km ?_)
   simp -implicitDefEqProofs[jJ,-natCast_add,-natCast_mul]
   (first|refine Aa kp ?_|refine Al kp ?_)
   simp -implicitDefEqProofs[jJ,-natCast_add,-natCast_mul];refine Av (fun i:Nat=>⟨[(7,vI .i64 i),(0,vI .i64 n),(1,vC (.d (AE ps))),(2,vC (.d (AP pts)))],[]⟩)
    (fun i=>i≤ps.length∧ ∀j (h:j<ps.length),j<i→FW ps[j] pts.length=0∧Dj (BD ps[j].kind (Be ps[j]) (ptsAt pts ps[j].args))=true) (fun i=>ps.length - i) 0 (by simp[An,lk,St.le,vI,vC]) ⟨by omega,fun j h hj=>by omega⟩ ?_
   rintro i ⟨hi,hd⟩
   by_cases h:i<ps.length
   ·have kh:=kh i h;have ea:=DO h;have hd2: ∀j (hj:j<ps.length),j<i+1→FW ps[i] pts.length=0→Dj (BD ps[i].kind (Be ps[i]) (ptsAt pts ps[i].args))=true→FW ps[j] pts.length=0∧Dj (BD ps[j].kind (Be ps[j]) (ptsAt pts ps[j].args))=true:=fun j hj hp e1 e2=>if e:j=i then by subst e;exact⟨e1,e2⟩ else hd j hj (by omega)
    generalize hwr:FW ps[i] pts.length=w at*;generalize hal:Dj (BD ps[i].kind (Be ps[i]) (ptsAt pts ps[i].args))=z at*;by_cases hw:w=0
    ·cases z with
     |true=>
      rw[hw,decide_eq_true rfl,Bool.true_and]at kh
      simp -implicitDefEqProofs[jJ,-natCast_add,-natCast_mul,h,ea]
      (first|refine Aa kh ?_|refine Al kh ?_)
      simp -implicitDefEqProofs[jJ,-natCast_add,-natCast_mul];exact⟨by omega,⟨by omega,fun j hj hp=>hd2 j hj hp hw rfl⟩,by omega⟩
     |false=>
      rw[hw,decide_eq_true rfl,Bool.true_and]at kh
      simp -implicitDefEqProofs[jJ,-natCast_add,-natCast_mul,h,ea]
      (first|refine Aa kh ?_|refine Al kh ?_)
      simp -implicitDefEqProofs[jJ,-natCast_add,-natCast_mul]
      (first|refine Aa aw ?_|refine Al aw ?_)
      simp -implicitDefEqProofs[jJ,-natCast_add,-natCast_mul]
    ·rw[decide_eq_false hw,Bool.false_and]at kh
     simp -implicitDefEqProofs[jJ,-natCast_add,-natCast_mul,h,ea]
     (first|refine Aa kh ?_|refine Al kh ?_)
     simp -implicitDefEqProofs[jJ,-natCast_add,-natCast_mul,hw]
     (first|refine Aa aw ?_|refine Al aw ?_)
     simp -implicitDefEqProofs[jJ,-natCast_add,-natCast_mul]
   ·have hi2:i=ps.length:=by omega
    subst hi2;have key:=key fun f hf=>by
     obtain⟨j,hj,rfl⟩:=List.mem_iff_getElem.1 hf
     exact hd j hj hj
    clear hd kh;generalize factsL (Dp n ps)=L at*;simp -implicitDefEqProofs[jJ,-natCast_add,-natCast_mul]
    (first|refine Aa ka ?_|refine Al ka ?_)
    simp -implicitDefEqProofs[jJ,-natCast_add,-natCast_mul];refine Av (fun i:Nat=>⟨[(12,vI .i64 i),(10,vC (.d (AE L))),(0,vI .i64 n),(1,vC (.d (AE ps))),(2,vC (.d (AP pts)))],[]⟩)
     (fun i=>i≤L.length) (fun i=>L.length - i) 0 (by simp[An,lk,St.le,vI,vC]) (by omega) ?_
    rintro i hi
    by_cases h:i<L.length
    ·obtain⟨G,b,hb,k1,k2,k3,k4⟩:=key i h
     have ea:=DO h;simp -implicitDefEqProofs[jJ,-natCast_add,-natCast_mul,h,ea]
     (first|refine Aa k1 ?_|refine Al k1 ?_)
     simp -implicitDefEqProofs[jJ,-natCast_add,-natCast_mul,h,ea]
     (first|refine Aa k2 ?_|refine Al k2 ?_)
     cases b with
     |true=>
      simp -implicitDefEqProofs[jJ,-natCast_add,-natCast_mul];exact⟨by omega,by omega,by omega⟩
     |false=>
      have k5:hb=false:=by simpa using k4
      subst k5;simp -implicitDefEqProofs[jJ,-natCast_add,-natCast_mul]
      (first|refine Aa k3 ?_|refine Al k3 ?_)
      simp -implicitDefEqProofs[jJ,-natCast_add,-natCast_mul];exact⟨by omega,by omega,by omega⟩
    ·have hi2:i=L.length:=by omega
     subst hi2;simp -implicitDefEqProofs[jJ,-natCast_add,-natCast_mul]
     (first|refine Aa aw ?_|refine Al aw ?_)
     simp -implicitDefEqProofs[jJ,-natCast_add,-natCast_mul]
end Go.Va
