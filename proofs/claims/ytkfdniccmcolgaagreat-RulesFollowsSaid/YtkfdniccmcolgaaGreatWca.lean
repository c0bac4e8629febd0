/- a part of the proof -/
import Derived.Test.YtkfdniccmcolgaaGreatWbz
import Derived.Test.YtkfdniccmcolgaaGreatWbu
set_option linter.all false
set_option maxHeartbeats 4000000
set_option maxRecDepth 10000
namespace Go.Va
open Int (natCast_add natCast_mul natCast_emod natCast_ediv natCast_pow)
open Go.Proofs
def Gx(i:Nat):List C:=List.replicate i (.d (.int .i16 (-1)))++List.replicate (26 - i) (.d (.int .i16 0))
theorem Y9{i:Nat}(h:i≤26):(Gx i).length=26:=by unfold Gx;simp;omega
theorem XJ:Gx 0=List.replicate 26 (.d (.int .i16 0)):=rfl
theorem jaN:Gx 26=Nmz.zero.cs:=by rw[Nmz.zero_cs];rfl
theorem jdB{α:Type}(A B:List α)(x z:α){i:Nat}(h:A.length=i):splice i [x] (A++z::B)=A++x::B:=by
 unfold splice;rw[List.take_left' h,show A++z::B=(A++[z])++B by simp,List.drop_left' (by simp[h])]
 simp
theorem jc4{i:Nat}(h:i<26):splice i [.d (.int .i16 (-1))] (Gx i)=Gx (i+1):=by
 unfold Gx;obtain⟨m,hm⟩: ∃m,26 - i=m+1:=⟨25 - i,by omega⟩
 rw[hm,show 26 - (i+1)=m by omega]
 rw[show List.replicate (m+1) (C.d (.int .i16 0))=C.d (.int .i16 0)::List.replicate m (C.d (.int .i16 0)) from rfl,jdB _ _ _ _ (by simp),List.replicate_succ']
 simp
def FF(ps:List Fct)(i:Nat):List Fct:=(ps.take i).map normF
theorem jhN{ps:List Fct}{i:Nat}(h:i≤ps.length):(FF ps i).length=i:=by unfold FF;simp;omega
theorem jgK{ps:List Fct}{i:Nat}(h:i<ps.length):FF ps (i+1)=FF ps i++[normF ps[i]]:=by
 unfold FF;rw[AQ h,List.map_append];rfl
theorem Xz(ps:List Fct):FF ps ps.length=ps.map normF:=by unfold FF;rw[AZ]
theorem KP{rr:RRul}(hr:rr.Fit){nl:List Fct}: ∀(k i:Nat) (n:Nmz),∀x∈BC rr nl k i n,GK x.2
 |0,i,n,x,hx=>by
  rw[BC]at hx
  unfold DG at hx;split at hx
  ·obtain⟨q,hq,rfl⟩:=jzk.1 hx
   exact(Ob n rr.guards [] (fun q hq=>(hr.gua q hq).2) (by simp)).1
  ·cases hx
 |k+1,i,n,x,hx=>by
  rw[BC]at hx
  split at hx
  ·obtain⟨v,hv,hx⟩:=List.mem_flatMap.1 hx
   split at hx
   ·exact KP hr k (i+1) _ x hx
   ·cases hx
  ·cases hx
theorem V9(n:Int)(ps:List Fct)(hps: ∀f∈ps,f.Mild)(hs: ∀f∈ps,f.Short2)(hl:ps.length≤1000):
  CallsF Tryz.prog 31 [.c (.int .i64 n),.c (fctsD ps)] (.u (.c (.own 6 (allR n ps).length ((allR n ps).flatMap Fnd.ds)))):=by
 have kp:=jeL n;generalize hR:allR n ps=L;unfold allR at hR;have pre:n<1∨28<n∨(ps.length:Int)≠(refN n.toNat).frm.length→CallsF Tryz.prog 31 [.c (.int .i64 n),.c (fctsD ps)] (.u (.c (.own 6 L.length (L.flatMap Fnd.ds)))):=by
  intro h;rw[if_pos h]at hR;subst hR;clear hps hs;generalize (refN n.toNat).frm.length=F at*;refine Ae (T:=tb) Ad mixed Tryz.func31 rfl (by decide) (Ac rfl) rfl ?_;unfold St.init
  by_cases h1:n<1
  ·simp -implicitDefEqProofs[jJ,-natCast_add,-natCast_mul,-natCast_emod,-natCast_ediv,-natCast_pow,-List.map_set,h1]
  by_cases h2:28<n
  ·simp -implicitDefEqProofs[jJ,-natCast_add,-natCast_mul,-natCast_emod,-natCast_ediv,-natCast_pow,-List.map_set,h1,h2]
  ·have h3: ¬(n<0∨28<n):=by omega
   rw[if_neg h3]at kp
   have h4: ¬ps.length=F:=by omega
   simp -implicitDefEqProofs[jJ,-natCast_add,-natCast_mul,-natCast_emod,-natCast_ediv,-natCast_pow,-List.map_set,h1,h2];refine Aa kp ?_;simp -implicitDefEqProofs[jJ,-natCast_add,-natCast_mul,-natCast_emod,-natCast_ediv,-natCast_pow,-List.map_set,h4]
 by_cases h0:n<1∨28<n∨(ps.length:Int)≠(refN n.toNat).frm.length
 ·exact pre h0
 clear pre;rw[if_neg h0]at hR;have h1: ¬n<1:=by omega
 have h2: ¬28<n:=by omega
 have h3: ¬(n<0∨28<n):=by omega
 have h4:(refN n.toNat).frm.length=ps.length:=by omega
 rw[if_neg h3,h4]at kp
 have kr:=fun i (h:i<ps.length)=>FE ps[i] (hps _ (Ak h))
 have kn:=fun i (h:i<ps.length)=>LE ps[i] (hps _ (Ak h))
 have nL:= @jhN ps
 have nS:= @jgK ps
 have nE:=Xz ps;have n0:FF ps 0=[]:=rfl;simp only[Fct.ds,Fct.res]at kr kn;refine Ae (T:=tb) Ad mixed Tryz.func31 rfl (by decide) (Ac rfl) rfl ?_;unfold St.init
 simp -implicitDefEqProofs[jJ,-natCast_add,-natCast_mul,-natCast_emod,-natCast_ediv,-natCast_pow,-List.map_set,h1,h2];refine Aa kp ?_;simp -implicitDefEqProofs[jJ,-natCast_add,-natCast_mul,-natCast_emod,-natCast_ediv,-natCast_pow,-List.map_set];refine BA [(5,41)] (fun i:Nat=>⟨[(6,vI .i64 i),(5,vC (.sl 5 0 i)),(0,vI .i64 n),(1,vC (.d (fctsD ps)))],[(5,.row 5 ((FF ps i).flatMap Fct.ds) true)]⟩)
  (fun i=>i≤ps.length∧ ∀j (hj:j<ps.length),j<i→AK ps[j]=true) (fun i=>ps.length - i) 0 (by simp[n0]) ⟨by omega,by omega⟩ ?_
 rintro i ⟨hi,hok⟩
 by_cases h:i<ps.length
 ·have kr:=kr i h;have kn:=kn i h;have e2:=DO h;have es:=nS h;have el:=nL hi;cases ho:AK ps[i]with
  |false=>
   rw[ho]at kr
   rw[if_pos (List.any_eq_true.2 ⟨ps[i],Ak h,by simp[ho]⟩)]at hR
   subst hR;simp -implicitDefEqProofs[jJ,-natCast_add,-natCast_mul,-natCast_emod,-natCast_ediv,-natCast_pow,-List.map_set,h,e2];refine Aa kr ?_;simp -implicitDefEqProofs[jJ,-natCast_add,-natCast_mul,-natCast_emod,-natCast_ediv,-natCast_pow,-List.map_set]
  |true=>
   rw[ho]at kr
   simp -implicitDefEqProofs[jJ,-natCast_add,-natCast_mul,-natCast_emod,-natCast_ediv,-natCast_pow,-List.map_set,h,e2];refine Aa kr ?_;simp -implicitDefEqProofs[jJ,-natCast_add,-natCast_mul,-natCast_emod,-natCast_ediv,-natCast_pow,-List.map_set,h,e2];refine Aa kn ?_;simp -implicitDefEqProofs[jJ,-natCast_add,-natCast_mul,-natCast_emod,-natCast_ediv,-natCast_pow,-List.map_set,el];exact⟨⟨by omega,by omega⟩,by omega,i+1,⟨rfl,by rw[es];simp[Fct.ds]⟩,⟨by omega,fun j hj hp=>if e:j=i then by subst e;exact ho else hok j hj (by omega)⟩,by omega⟩
 ·have hi2:i=ps.length:=by omega
  subst hi2;rw[if_neg (fun hc=>by
   obtain⟨f,hf,h0⟩:=List.any_eq_true.1 hc
   obtain⟨j,hj,rfl⟩:=List.mem_iff_getElem.1 hf
   rw[hok j hj hj]at h0
   cases h0)]at hR
  have hrt: ∀f∈ps.map normF,f.Rt:=fun f hf=>by
   obtain⟨g,hg,rfl⟩:=jzk.1 hf
   obtain⟨j,hj,rfl⟩:=List.mem_iff_getElem.1 hg
   have:normF ps[j]=normG ps[j]:=by unfold normF;rw[if_pos (hok j hj hj)]
   rw[this]
   exact HW ⟨hok j hj hj,hps _ hg⟩
  have hsh: ∀f∈ps.map normF,f.Short2:=fun f hf=>by
   obtain⟨g,hg,rfl⟩:=jzk.1 hf
   exact GY (hps g hg) (hs g hg)
  rw[nE]
  have hml:(ps.map normF).length=ps.length:=List.length_map ..
  generalize ps.map normF=nl at*;have hnl:nl.length≤1000:=by omega
  have hfr:(refN n.toNat).frm.length=nl.length:=by omega
  by_cases c4:n=4
  ·subst c4;have kL:CallsF Tryz.prog 65 [.c (fctsD nl)] (.u (.c (.own 6 L.length (L.flatMap Fnd.ds)))):=by
    have h2:nl.length=2:=by rw[←hfr];rfl
    obtain⟨p,q,rfl⟩: ∃p q,nl=[p,q]:=by
     match nl,h2 with
     |[p,q],_=>exact⟨p,q,rfl⟩
    have k:=jgS p q (hrt p (by simp)) (hrt q (by simp)) (hsh p (by simp)) (hsh q (by simp))
    rw[show AE [p,q] [] (Fa 4 [p,q])=AE [p,q] [] ((FU p q).map fun f=>(f,[])) from rfl]at hR
    rw[hR]at k
    exact k
   simp -implicitDefEqProofs[jJ,-natCast_add,-natCast_mul,-natCast_emod,-natCast_ediv,-natCast_pow,-List.map_set];rw[←hml];simp -implicitDefEqProofs[jJ,-natCast_add,-natCast_mul,-natCast_emod,-natCast_ediv,-natCast_pow,-List.map_set];refine Aa kL ?_;simp -implicitDefEqProofs[jJ,-natCast_add,-natCast_mul,-natCast_emod,-natCast_ediv,-natCast_pow,-List.map_set]
  by_cases c9:n=9
  ·subst c9;have kL:CallsF Tryz.prog 66 [.c (fctsD nl)] (.u (.c (.own 6 L.length (L.flatMap Fnd.ds)))):=by
    have h2:nl.length=2:=by rw[←hfr];rfl
    obtain⟨p,q,rfl⟩: ∃p q,nl=[p,q]:=by
     match nl,h2 with
     |[p,q],_=>exact⟨p,q,rfl⟩
    rw[show AE [p,q] [] (Fa 9 [p,q])=AE [p,q] [] ((Cw [p,q]).map fun f=>(f,[])) from rfl]at hR
    have hp:=hrt p (by simp)
    have hq:=hrt q (by simp)
    by_cases k8:p.kind=8
    ·obtain⟨a,b,ha⟩: ∃a b,p.args=[a,b]:=by
      have:p.args.length=2:=by rw[hp.parts.2.1,k8];rfl
      match p.args,this with
      |[a,b],_=>exact⟨a,b,rfl⟩
     have k:=Xq p q hp hq k8 a b ha;have e:Cw [p,q]=[A8 a b q,A8 b a q]:=by
      unfold Cw;simp only;rw[if_pos k8,ha]
     rw[e]at hR
     rw[←hR]
     exact k
    ·have k:=YD p q k8;have e:Cw [p,q]=[]:=by
      unfold Cw;simp only;rw[if_neg k8]
     rw[e]at hR
     rw[←hR]
     exact k
   simp -implicitDefEqProofs[jJ,-natCast_add,-natCast_mul,-natCast_emod,-natCast_ediv,-natCast_pow,-List.map_set];rw[←hml];simp -implicitDefEqProofs[jJ,-natCast_add,-natCast_mul,-natCast_emod,-natCast_ediv,-natCast_pow,-List.map_set];refine Aa kL ?_;simp -implicitDefEqProofs[jJ,-natCast_add,-natCast_mul,-natCast_emod,-natCast_ediv,-natCast_pow,-List.map_set]
  ·have hfit:=MP (n:=n.toNat) (by omega) (by omega)
   have kG:=Qy n;have hn3:nl.length≤3:=by
    obtain⟨t1,t2⟩:=Li n.toNat (by omega) (by omega)
    have e1:(refN n.toNat).frm.length=(AJ n.toNat).prem.length:=by rw[t2];unfold C9;simp
    have:=(HL n.toNat).lp
    omega
   have eQ:Fa n nl=BC (refN n.toNat) nl nl.length 0 Nmz.zero:=by unfold Fa;rw[if_neg c4,if_neg c9]
   have hQ: ∀x∈BC (refN n.toNat) nl nl.length 0 Nmz.zero,(x.1.Mild∧(normF x.1).Rt)∧GK x.2:=by
    obtain⟨t1,t2⟩:=Li n.toNat (by omega) (by omega)
    have hlen:nl.length=(AJ n.toNat).prem.length:=by
     have e1:(refN n.toNat).frm.length=(AJ n.toNat).prem.length:=by rw[t2];unfold C9;simp
     omega
    obtain⟨s1,s2⟩:=Vp (sg:=GP n.toNat) (r:=AJ n.toNat) (HL _) t1 hrt hlen
    have hP:=Jw (AJ n.toNat) (HL _) nl hrt;intro x hx;rw[t2]at hx;have hx':=(s1 x).2 hx;have ho:=s2 x hx';have hm:=(hP x hx').1;refine⟨⟨hm,Ca hm fun h=>by rw[(GL hm).1 h]at ho;cases ho⟩,?_⟩
    rw[←t2]at hx
    exact KP hfit _ _ _ x hx
   have hlen3:(BC (refN n.toNat) nl nl.length 0 Nmz.zero).length≤100000000000:=by
    refine Nat.le_trans (PS hfit hrt _ _ _) ?_;have:200^nl.length≤200^3:=Nat.pow_le_pow_right (by omega) hn3
    omega
   have kM:=Vo (refN n.toNat) hfit nl hrt hnl hfr.symm nl.length 0 [] Nmz.zero (by omega) Nmz.zero_ok (by simp) (by simpa using hlen3) hQ
   rw[←eQ,hR]at kM
   have fS:= @jc4
   generalize refN n.toNat=rr at*;simp only[RRul.res,RRul.ds]at kG kM;simp -implicitDefEqProofs[jJ,-natCast_add,-natCast_mul,-natCast_emod,-natCast_ediv,-natCast_pow,-List.map_set,-List.reduceReplicate,c4,c9];rw[←hml];refine Av (fun i:Nat=>⟨[(8,vI .i64 i),(7,vC (.ptr 7 0)),(5,vC (.sl 5 0 nl.length)),(0,vI .i64 n)],[(7,.box (Gx i)),(5,.row 5 (nl.flatMap Fct.ds) true)]⟩)
    (fun i=>i≤26) (fun i=>26 - i) 0 (by simp[An,lk,St.le,vI,vC,XJ]) (by omega) ?_
   rintro i hi
   by_cases h:i<26
   ·have fS:=fS h;have fl:=Y9 hi;have h':i≤25:=by omega
    simp -implicitDefEqProofs[jJ,-natCast_add,-natCast_mul,-natCast_emod,-natCast_ediv,-natCast_pow,-List.map_set,-List.reduceReplicate,h,h',fl,fS];exact⟨by omega,i+1,⟨rfl,rfl⟩,by omega,by omega⟩
   ·have hi2:i=26:=by omega
    subst hi2;rw[jaN];simp -implicitDefEqProofs[jJ,-natCast_add,-natCast_mul,-natCast_emod,-natCast_ediv,-natCast_pow,-List.map_set,-List.reduceReplicate];refine Af (Aj [0,1,0,0,15,31]) [.any [5] [] (Ao [[0],[57],[5],[7]]),.one,.one] (by rfl) ?_
    simp -implicitDefEqProofs[jJ,-natCast_add,-natCast_mul,-natCast_emod,-natCast_ediv,-natCast_pow,-List.map_set,-List.reduceReplicate,-A6,Ch,Cg,Cb];refine Al kG ?_;simp -implicitDefEqProofs[jJ,-natCast_add,-natCast_mul,-natCast_emod,-natCast_ediv,-natCast_pow,-List.map_set,-List.reduceReplicate];refine .inr (.inr (.inr (.inr (.inl (.inr (.inr (.inl ⟨rfl,6,_,61,_,_,_,rfl,?_,rfl,kM,?_⟩)))))))
    ·simp[U.toA,toD]
    simp -implicitDefEqProofs[jJ,-natCast_add,-natCast_mul,-natCast_emod,-natCast_ediv,-natCast_pow,-List.map_set,-List.reduceReplicate]
theorem QQ(n:Int)(ps:List Fct): ∀x∈allR n ps,GK x.grds:=by
 have key: ∀(nl:List Fct),∀x∈AE nl [] (Fa n nl),GK x.grds:=fun nl x hx=>by
  refine(IN (P:=fun _=>True) (G:=GK) (Fa n nl) (by simp) (fun y hy=>⟨trivial,?_⟩) x hx).2
  unfold Fa at hy;split at hy
  ·split at hy
   ·obtain⟨f,_,rfl⟩:=jzk.1 hy
    simp[GK]
   ·cases hy
  ·split at hy
   ·obtain⟨f,_,rfl⟩:=jzk.1 hy
    simp[GK]
   ·rename_i h4 h9
    by_cases h:0≤n
    ·exact KP (MP (n:=n.toNat) (by omega) (by omega)) _ _ _ y hy
    ·exact KP (MP (n:=n.toNat) (by omega) (by omega)) _ _ _ y hy
 unfold allR;split
 ·simp
 ·split
  ·simp
  ·exact key _
theorem ME: ∀(m l:List Grd),(m.foldl Bf l).length≤l.length+m.length
 |[],l=>by simp
 |f::m,l=>by
  have h1:=ME m (Bf l f);have h2:=LJ f l;rw[List.foldl_cons,List.length_cons];omega
def gdsI(L:List Fnd)(i k:Nat):List Grd:=((L.getD i ⟨.zero,[]⟩).grds.take k).foldl Bf ((Bq (L.take i)).foldl Bf [])
theorem ZM{L:List Fnd}{i k:Nat}(hi:i<L.length)(hk:k<L[i].grds.length):gdsI L i (k+1)=Bf (gdsI L i k) L[i].grds[k]:=by
 unfold gdsI;have e:L.getD i ⟨.zero,[]⟩=L[i]:=by rw[Ar,Ai hi];rfl
 rw[e,AQ hk,List.foldl_append]
 rfl
theorem jfh{L:List Fnd}{i:Nat}(hi:i<L.length):gdsI L (i+1) 0=gdsI L i L[i].grds.length:=by
 unfold gdsI Bq;have e:L.getD i ⟨.zero,[]⟩=L[i]:=by rw[Ar,Ai hi];rfl
 rw[e,AZ,AQ hi,List.flatMap_append,List.foldl_append]
 simp
theorem jcG(L:List Fnd):gdsI L L.length 0=BV (Bq L):=by
 unfold gdsI;rw[AZ,UR];rfl
theorem SM{L:List Fnd}{i k:Nat}: ∀g∈gdsI L i k,∃x∈L,g∈x.grds:=fun g hg=>by
 unfold gdsI at hg;rcases (KV _ _ _).1 hg with hg|hg
 ·rcases (KV _ _ _).1 hg with hg|hg
  ·cases hg
  ·obtain⟨x,hx,hg⟩:=List.mem_flatMap.1 hg
   exact⟨x,List.mem_of_mem_take hx,hg⟩
 ·have hg:=List.mem_of_mem_take hg;by_cases h:i<L.length
  ·have e:L.getD i ⟨.zero,[]⟩=L[i]:=by rw[Ar,Ai h];rfl
   rw[e]at hg
   exact⟨_,Ak h,hg⟩
  ·have e:L.getD i ⟨.zero,[]⟩=⟨.zero,[]⟩:=by rw[Ar,BG (by omega)];rfl
   rw[e]at hg
   cases hg
theorem jcN(n:Int)(ps:List Fct)(L:List Fnd)(hL:FndOk L)(hG: ∀x∈L,GK x.grds)(hl:L.length≤100000000000)
  (hA:CallsF Tryz.prog 31 [.c (.int .i64 n),.c (fctsD ps)] (.u (.c (.own 6 L.length (L.flatMap Fnd.ds))))):
  CallsF Tryz.prog 11 [.c (.int .i64 n),.c (fctsD ps)] (.tup [.c (.d (fctsD (factsL L))),.c (.d (grdsD (BV (Bq L))))]):=by
 have kA:CallsF Tryz.prog 31 [.c (.int .i64 n),.c (fctsD ps)] (.u (.c (.d (BQ L)))):=by
  have k:=hA.dat;simp only[R.dat,RU.dat,RC.dat]at k;rw[IV]at k;exact k
 have gl: ∀i k,i≤L.length→(gdsI L i k).length≤1000000000010:=fun i k hi=>by
  unfold gdsI;have h1:=ME ((L.getD i ⟨.zero,[]⟩).grds.take k) ((Bq (L.take i)).foldl Bf []);have h2:=ME (Bq (L.take i)) [];have h3:=K8 (hL.sub (List.take_sublist i L));have h4:(L.getD i ⟨.zero,[]⟩).grds.length≤10:=by
   by_cases h:i<L.length
   ·have e:L.getD i ⟨.zero,[]⟩=L[i]:=by rw[Ar,Ai h];rfl
    rw[e]
    exact(hL.sh _ (Ak h)).1
   ·have e:L.getD i ⟨.zero,[]⟩=⟨.zero,[]⟩:=by rw[Ar,BG (by omega)];rfl
    rw[e]
    simp
  simp only[AG,List.length_nil]at h1 h2 h3;omega
 have kP:=fun i k (hi:i<L.length) (hk:k<L[i].grds.length)=>Nr L[i].grds[k] (gdsI L i k) (hG _ (Ak hi) _ (Ak hk)).1 (fun g hg=>by
   obtain⟨x,hx,hgx⟩:=SM g hg
   exact(hG x hx g hgx).1) (fun g hg=>by
   obtain⟨x,hx,hgx⟩:=SM g hg
   exact .inr ⟨(hG x hx g hgx).2.1,(hG x hx g hgx).2.2,(hG _ (Ak hi) _ (Ak hk)).2.1,(hG _ (Ak hi) _ (Ak hk)).2.2⟩) (by have:=gl i k (by omega);omega)
 have gk:=fun i k (hi:i<L.length) (hk:k<L[i].grds.length)=>ZM hi hk
 have gi:=fun i (hi:i<L.length)=>jfh hi
 have g0:gdsI L 0 0=[]:=by
  unfold gdsI Bq;simp
 have lgr:=fun i (hi:i<L.length)=>(hL.sh _ (Ak hi)).1
 rw[←jcG]
 generalize gdsI L=G at*;clear hL hG hA gl;simp only[Grd.ds]at kP;have kf: ∀i (hi:i<L.length),factsL (L.take (i+1))=factsL (L.take i)++[L[i].fact]:=fun i hi=>by
  unfold factsL;rw[AQ hi,List.map_append];rfl
 have kl: ∀i,i≤L.length→(factsL (L.take i)).length=i:=fun i hi=>by simp[factsL];omega
 refine Ae (T:=tb) Ad mixed Tryz.func11 rfl (by decide) (Ac rfl) rfl ?_;unfold St.init
 simp -implicitDefEqProofs[jJ,-natCast_add,-natCast_mul];refine Aa kA ?_;simp -implicitDefEqProofs[jJ,-natCast_add,-natCast_mul];refine BA [(7,27)] (fun x:Nat×Bool=>match x with
   |(i,false)=>⟨[(9,vI .i64 i),(8,vC (.sl 8 0 0)),(7,vC (.sl 7 0 i)),(6,vC (.d (BQ L)))],[(8,.row 2 [] true),(7,.row 5 ((factsL (L.take i)).flatMap Fct.ds) true)]⟩
   |(i,true)=>⟨[(9,vI .i64 i),(8,vC (.d (grdsD (G i 0)))),(7,vC (.sl 7 0 i)),(6,vC (.d (BQ L)))],[(7,.row 5 ((factsL (L.take i)).flatMap Fct.ds) true)]⟩)
  (fun x=>x.1≤L.length∧(x.2=false→G x.1 0=[])) (fun x=>L.length - x.1) (0,false) (by simp[factsL]) ⟨by omega,fun _=>g0⟩ ?_
 rintro⟨i,b⟩ ⟨hi,hb⟩
 simp only at hi hb;by_cases h:i<L.length
 ·have e2:=IU h;have es:=kf i h;have el:=kl i hi;have kP:=kP i;have gk:=gk i;have gi:=gi i h;have lgr:=lgr i h;have h11:(i+1)*88≤140737488355328:=by omega
  have h12:i≤140737488355327:=by omega
  have key: ∀(b:Bool),(b=false→G i 0=[])→ ∀(x:Nat×Bool),x=(0,b)→x.1≤L[i].grds.length∧(x.2=false→G i x.1=[]):=fun b hb x e=>by
   subst e;exact⟨by simp,hb⟩
  cases b with
  |false=>
   simp -implicitDefEqProofs[jJ,-natCast_add,-natCast_mul,h,e2,el];refine⟨⟨by omega,by omega⟩,?_⟩
   refine Av (fun x:Nat×Bool=>match x with
     |(k,false)=>⟨[(10,vI .i64 k),(9,vI .i64 i),(8,vC (.sl 8 0 0)),(7,vC (.sl 27 0 (i+1))),(6,vC (.d (BQ L)))],[(27,.row 5 ((factsL (L.take (i+1))).flatMap Fct.ds) true),(8,.row 2 [] true)]⟩
     |(k,true)=>⟨[(10,vI .i64 k),(9,vI .i64 i),(8,vC (.d (grdsD (G i k)))),(7,vC (.sl 27 0 (i+1))),(6,vC (.d (BQ L)))],[(27,.row 5 ((factsL (L.take (i+1))).flatMap Fct.ds) true)]⟩)
    (fun x=>x.1≤L[i].grds.length∧(x.2=false→G i x.1=[])) (fun x=>L[i].grds.length - x.1) (0,false) (by rw[es];simp[An,lk,St.le,vI,vC,Fct.ds]) (key false hb _ rfl) ?_
   rintro⟨k,c⟩ ⟨hk,hc⟩
   simp only at hk hc;by_cases h5:k<L[i].grds.length
   ·have kP:=kP k h h5;have gk:=gk k h h5;have e3:=F8 h5;cases c with
    |false=>
     have hc:=hc rfl;rw[hc]at kP gk;rw[show grdsD []=D.slice 0 [] from rfl]at kP
     simp -implicitDefEqProofs[jJ,-natCast_add,-natCast_mul,h,h5,e2,e3];refine Aa kP ?_;simp -implicitDefEqProofs[jJ,-natCast_add,-natCast_mul,gk];exact⟨by omega,k+1,⟨rfl,by rw[gk]⟩,by omega,by omega⟩
    |true=>
     simp -implicitDefEqProofs[jJ,-natCast_add,-natCast_mul,h,h5,e2,e3];refine Aa kP ?_;simp -implicitDefEqProofs[jJ,-natCast_add,-natCast_mul];exact⟨by omega,k+1,⟨rfl,by rw[gk]⟩,by omega,by omega⟩
   ·have hk2:k=L[i].grds.length:=by omega
    subst hk2;cases c with
    |false=>
     have hc:=hc rfl;simp -implicitDefEqProofs[jJ,-natCast_add,-natCast_mul,h,e2];exact⟨by omega,i+1,⟨rfl,rfl⟩,⟨by omega,by rw[gi];exact hc⟩,by omega⟩
    |true=>
     simp -implicitDefEqProofs[jJ,-natCast_add,-natCast_mul,h,e2];exact⟨by omega,i+1,⟨⟨rfl,by rw[gi],rfl⟩,rfl⟩,by omega,by omega⟩
  |true=>
   simp -implicitDefEqProofs[jJ,-natCast_add,-natCast_mul,h,e2,el];refine⟨⟨by omega,by omega⟩,?_⟩
   refine Av (fun x:Nat×Bool=>match x with
     |(k,false)=>⟨[(10,vI .i64 k),(9,vI .i64 i),(8,vC (.sl 8 0 0)),(7,vC (.sl 27 0 (i+1))),(6,vC (.d (BQ L)))],[(27,.row 5 ((factsL (L.take (i+1))).flatMap Fct.ds) true),(8,.row 2 [] true)]⟩
     |(k,true)=>⟨[(10,vI .i64 k),(9,vI .i64 i),(8,vC (.d (grdsD (G i k)))),(7,vC (.sl 27 0 (i+1))),(6,vC (.d (BQ L)))],[(27,.row 5 ((factsL (L.take (i+1))).flatMap Fct.ds) true)]⟩)
    (fun x=>x.1≤L[i].grds.length∧(x.2=false→G i x.1=[])) (fun x=>L[i].grds.length - x.1) (0,true) (by rw[es];simp[An,lk,St.le,vI,vC,Fct.ds]) (key true hb _ rfl) ?_
   rintro⟨k,c⟩ ⟨hk,hc⟩
   simp only at hk hc;by_cases h5:k<L[i].grds.length
   ·have kP:=kP k h h5;have gk:=gk k h h5;have e3:=F8 h5;cases c with
    |false=>
     have hc:=hc rfl;rw[hc]at kP gk;rw[show grdsD []=D.slice 0 [] from rfl]at kP
     simp -implicitDefEqProofs[jJ,-natCast_add,-natCast_mul,h,h5,e2,e3];refine Aa kP ?_;simp -implicitDefEqProofs[jJ,-natCast_add,-natCast_mul,gk];exact⟨by omega,k+1,⟨rfl,by rw[gk]⟩,by omega,by omega⟩
    |true=>
     simp -implicitDefEqProofs[jJ,-natCast_add,-natCast_mul,h,h5,e2,e3];refine Aa kP ?_;simp -implicitDefEqProofs[jJ,-natCast_add,-natCast_mul];exact⟨by omega,k+1,⟨rfl,by rw[gk]⟩,by omega,by omega⟩
   ·have hk2:k=L[i].grds.length:=by omega
    subst hk2;cases c with
    |false=>
     have hc:=hc rfl;simp -implicitDefEqProofs[jJ,-natCast_add,-natCast_mul,h,e2];exact⟨by omega,i+1,⟨rfl,rfl⟩,⟨by omega,by rw[gi];exact hc⟩,by omega⟩
    |true=>
     simp -implicitDefEqProofs[jJ,-natCast_add,-natCast_mul,h,e2];exact⟨by omega,i+1,⟨⟨rfl,by rw[gi],rfl⟩,rfl⟩,by omega,by omega⟩
 ·have hi2:i=L.length:=by omega
  subst hi2;have e:(factsL L).length=L.length:=by simp[factsL]
  have hb2:D.slice L.length (List.take (L.length*5) ((factsL L).flatMap Fct.ds))=fctsD (factsL L):=by
   rw[←e,M6]
   rfl
  cases b with
  |false=>
   simp -implicitDefEqProofs[jJ,-natCast_add,-natCast_mul];refine⟨⟨by omega,hb2⟩,?_⟩
   rw[hb rfl]
   rfl
  |true=>
   simp -implicitDefEqProofs[jJ,-natCast_add,-natCast_mul];exact⟨by omega,hb2⟩
theorem jcp(n:Int)(ps:List Fct)(f:Fct)(hf:f.Mild)(L:List Fnd)(hm: ∀x∈L,x.fact.Mild)(hl:L.length≤100000000000)
  (hA:CallsF Tryz.prog 31 [.c (.int .i64 n),.c (fctsD ps)] (.u (.c (.own 6 L.length (L.flatMap Fnd.ds))))):
  CallsF Tryz.prog 15 [.c (.int .i64 n),.c (fctsD ps),.agg f.ds] (.tup [.c (.d (grdsD (BZ L f).1)),.c (.d (.bool (BZ L f).2))]):=by
 have kA:CallsF Tryz.prog 31 [.c (.int .i64 n),.c (fctsD ps)] (.u (.c (.d (BQ L)))):=by
  have k:=hA.dat;simp only[R.dat,RU.dat,RC.dat]at k;rw[IV]at k;exact k
 have kS:=fun i (h:i<L.length)=>jaa L[i].fact f (hm _ (Ak h)) hf
 generalize hR:BZ L f=R;have hR:BZ (L.drop 0) f=R:=hR;simp only[Fct.ds]at kS ⊢;refine Ae (T:=tb) Ad mixed Tryz.func15 rfl (by decide) (Ac rfl) rfl ?_;unfold St.init
 simp -implicitDefEqProofs[jJ,-natCast_add,-natCast_mul];refine Aa kA ?_;simp -implicitDefEqProofs[jJ,-natCast_add,-natCast_mul];refine Av (fun i:Nat=>⟨[(9,vI .i64 i),(8,vC (.d (BQ L))),(5,vC (.ptr 5 0))],[(5,.box (f.ds.map .d))]⟩)
  (fun i=>i≤L.length∧BZ (L.drop i) f=R) (fun i=>L.length - i) 0 (by simp[An,lk,St.le,vI,vC,Fct.ds]) ⟨by omega,hR⟩ ?_
 rintro i ⟨h1,h2⟩
 by_cases h:i<L.length
 ·have kS:=kS i h;have e2:=IU h;rw[AD h]at h2;unfold BZ at h2;rw[List.find?_cons]at h2;simp -implicitDefEqProofs[jJ,-natCast_add,-natCast_mul,h,Fct.ds];refine Af (Aj [0,0,3,7,15,0,63]) [.any [] [] (Ao [[8],[9],[19,20],[21],[22],[5]]),.one] (by rfl) ?_
  simp -implicitDefEqProofs[jJ,-natCast_add,-natCast_mul,h,e2,Fct.ds];refine Aa kS ?_;cases hs:FN L[i].fact f with
  |true=>
   rw[hs]at h2
   simp -implicitDefEqProofs[jJ,-natCast_add,-natCast_mul,h,e2];rw[←h2];exact⟨rfl,rfl⟩
  |false=>
   rw[hs]at h2
   simp -implicitDefEqProofs[jJ,-natCast_add,-natCast_mul,h];exact⟨by omega,⟨by omega,h2⟩,by omega⟩
 ·have hi2:i=L.length:=by omega
  subst hi2;rw[List.drop_length]at h2;subst h2;simp -implicitDefEqProofs[jJ,-natCast_add,-natCast_mul];exact⟨rfl,rfl⟩
end Go.Va
