/- a part of the proof -/
import Derived.Test.YtfmhdeggclefdaaGreatDoorKau
import Derived.Test.YtfmhdeggclefdaaGreatDoorKat
import Derived.Test.YtfmhdeggclefdaaGreatDoorKax
import Derived.Test.YtfmhdeggclefdaaGreatDoorKbo
import Derived.Test.YtfmhdeggclefdaaGreatDoorKbj
import Derived.Test.YtfmhdeggclefdaaGreatDoorKbf
set_option linter.all false
set_option maxHeartbeats 4000000
set_option maxRecDepth 10000
namespace Go.Va
open Int renaming natCast_add → qA, natCast_mul → qB, natCast_emod → qC, natCast_ediv → qD, natCast_pow → qE
open List renaming reduceReplicate → qF
open Go.Proofs
def smlF(f:Fct):Bool:=decide (f.args.length≤20)&&(decide (f.abs.length≤2)&&decide (f.den.length≤2))
theorem jbp(f:Fct):CallsF Tryz.prog 12 [.agg f.ds] (.u (.c (.d (.bool (smlF f))))):=by
 obtain⟨r,hr⟩: ∃r,r=smlF f:=⟨_,rfl⟩
 rw[←hr]
 unfold smlF at hr;obtain⟨kind,args,neg,abs,den⟩:=f;simp only[Fct.ds]at*;refine cO Tryz.func12 rfl ?_;by_cases c1:args.length≤20
 ·by_cases c2:abs.length≤2
  ·by_cases c3:den.length≤2
   ·simp -implicitDefEqProofs[jJ,-qA,-qB,c1,c2,c3,hr]
   ·simp -implicitDefEqProofs[jJ,-qA,-qB,c1,c2,c3,hr]
  ·simp -implicitDefEqProofs[jJ,-qA,-qB,c1,c2,hr]
 ·simp -implicitDefEqProofs[jJ,-qA,-qB,c1,hr]
def DW(ns:List ByteArray):Bool:=decide (ns.length≤60)&&ns.all fun s=>decide (s.size≤30)
theorem Qj(ns:List ByteArray):CallsF Tryz.prog 5 [.c (A6 ns)] (.u (.c (.d (.bool (DW ns))))):=by
 obtain⟨r,hr⟩: ∃r,r=DW ns:=⟨_,rfl⟩
 rw[←hr]
 unfold DW at hr;unfold A6;refine cO Tryz.func5 rfl ?_;by_cases c0:ns.length≤60
 case neg=>
  have e1:60<ns.length:=by omega
  rw[decide_eq_false c0,Bool.false_and]at hr
  subst hr;simp -implicitDefEqProofs[jJ,-qA,-qB,e1]
 have e1: ¬60<ns.length:=by omega
 rw[decide_eq_true c0,Bool.true_and]at hr
 simp -implicitDefEqProofs[jJ,-qA,-qB,e1];refine AV (fun i:Nat=>⟨[(3,vI .i64 i),(0,vC (.d (EC D.str ns)))],[]⟩)
  (fun i=>i≤ns.length∧CB (fun s:ByteArray=>decide (s.size≤30)) ns i) (fun i=>ns.length - i) 0 (by simp[AW,lk,St.le,vI,vC]) ⟨by omega,HJ _ _⟩ ?_
 rintro i ⟨hi,he⟩
 by_cases h:i<ns.length
 ·have g0:ns[i]? =some ns[i]:=AD h
  have hs:=fun q=>Iu h he q
  have hn:=fun q=>Is h (p:=fun s:ByteArray=>decide (s.size≤30)) q
  clear he;by_cases c1:ns[i].size≤30
  ·have d1: ¬30<ns[i].size:=by omega
   simp -implicitDefEqProofs[jJ,-qA,-qB,h,g0,d1];exact⟨by omega,⟨by omega,hs (by simp[c1])⟩,by omega⟩
  ·have d1:30<ns[i].size:=by omega
   rw[hn (by simp[c1])]at hr
   subst hr;simp -implicitDefEqProofs[jJ,-qA,-qB,h,g0,d1]
 ·have hi2:i=ns.length:=by omega
  subst hi2;rw[HZ he]at hr;subst hr;simp -implicitDefEqProofs[jJ,-qA,-qB]
def FM(x:Der):Bool:=decide (x.frm.length≤20)&&smlF x.fact
def Fo(g:Grd):Bool:=decide (g.args.length≤20)
def EM(ds:List Der)(gs:List Grd):Bool:=decide (ds.length≤12)&&(decide (gs.length≤12)&&(ds.all FM&&gs.all Fo))
theorem jaJ(ds:List Der)(gs:List Grd):CallsF Tryz.prog 4 [.agg [Dh ds,Dd gs]] (.u (.c (.d (.bool (EM ds gs))))):=by
 obtain⟨r,hr⟩: ∃r,r=EM ds gs:=⟨_,rfl⟩
 rw[←hr]
 unfold EM at hr;refine cO Tryz.func4 rfl ?_;simp only[Dh,Dd]at*;by_cases h40:ds.length≤12
 case neg=>
  have e1:12<ds.length:=by omega
  rw[decide_eq_false h40,Bool.false_and]at hr
  subst hr;simp -implicitDefEqProofs[jJ,-qA,-qB,-qF,e1]
 by_cases h20:gs.length≤12
 case neg=>
  have e1: ¬12<ds.length:=by omega
  have e2:12<gs.length:=by omega
  rw[decide_eq_false h20,Bool.false_and,Bool.and_false]at hr
  subst hr;simp -implicitDefEqProofs[jJ,-qA,-qB,-qF,e1,e2]
 have e1: ¬12<ds.length:=by omega
 have e2: ¬12<gs.length:=by omega
 rw[decide_eq_true h40,decide_eq_true h20,Bool.true_and,Bool.true_and]at hr
 simp -implicitDefEqProofs[jJ,-qA,-qB,-qF,e1,e2];refine AV (fun i:Nat=>⟨[(3,vI .i64 i),(1,vC (.ptr 1 0))],[(1,.box [.d (.slice ds.length (ds.flatMap Der.ds)),.d (.slice gs.length (gs.flatMap Grd.ds))])]⟩)
  (fun i=>i≤ds.length∧CB FM ds i) (fun i=>ds.length - i) 0 (by simp[AW,lk,St.le,vI,vC]) ⟨by omega,HJ _ _⟩ ?_
 rintro i ⟨hi,he⟩
 by_cases h:i<ds.length
 ·have g:=Kp ds i h;have b1:i*7+7≤ds.length*7:=by omega
  have hs:=fun q=>Iu h he q
  have hn:=fun q=>Is h (p:=FM) q
  have hX:FM ds[i]=(decide (ds[i].frm.length≤20)&&smlF ds[i].fact):=rfl
  have ks:=jbp ds[i].fact;clear he;generalize ds[i]=x at*;obtain⟨f,rr,l⟩:=x;simp only[Fct.ds]at*;generalize smlF f=q at*;by_cases c0:l.length≤20
  ·have d0: ¬20<l.length:=by omega
   cases q with
   |true=>
    simp -implicitDefEqProofs[jJ,-qA,-qB,-qF,h,g,d0];refine⟨by omega,?_⟩
    (first|refine Ac ks ?_|refine Ae ks ?_)
    simp -implicitDefEqProofs[jJ,-qA,-qB,-qF];exact⟨by omega,⟨by omega,hs (by rw[hX];simp[c0])⟩,by omega⟩
   |false=>
    rw[hn (by rw[hX];simp),Bool.false_and]at hr
    subst hr;simp -implicitDefEqProofs[jJ,-qA,-qB,-qF,h,g,d0];refine⟨by omega,?_⟩
    (first|refine Ac ks ?_|refine Ae ks ?_)
    simp -implicitDefEqProofs[jJ,-qA,-qB,-qF]
  ·rw[hn (by rw[hX];simp[c0]),Bool.false_and]at hr
   subst hr;have d0:20<l.length:=by omega
   simp -implicitDefEqProofs[jJ,-qA,-qB,-qF,h,g,d0];omega
 ·have hi2:i=ds.length:=by omega
  subst hi2;rw[HZ he,Bool.true_and]at hr;simp -implicitDefEqProofs[jJ,-qA,-qB,-qF];refine AV (fun i:Nat=>⟨[(5,vI .i64 i),(1,vC (.ptr 1 0))],[(1,.box [.d (.slice ds.length (ds.flatMap Der.ds)),.d (.slice gs.length (gs.flatMap Grd.ds))])]⟩)
   (fun i=>i≤gs.length∧CB Fo gs i) (fun i=>gs.length - i) 0 (by simp[AW,lk,St.le,vI,vC]) ⟨by omega,HJ _ _⟩ ?_
  rintro i ⟨hi,he⟩
  by_cases h:i<gs.length
  ·have g:=L3 gs i h;have b1:i*2+2≤gs.length*2:=by omega
   have hs:=fun q=>Iu h he q
   have hn:=fun q=>Is h (p:=Fo) q
   have g1:(gs.flatMap Grd.ds)[i*2+1]? =some (AT gs[i].args):=by
    have:=congrArg (fun l:List D=>l[1]?) (O1 gs i h)
    simpa [List.getElem?_take,List.getElem?_drop,Grd.ds]using this
   have hX:Fo gs[i]=decide (gs[i].args.length≤20):=rfl
   clear he;generalize gs[i]=x at*;obtain⟨k,l⟩:=x;simp only at*;by_cases c0:l.length≤20
   ·have d0: ¬20<l.length:=by omega
    simp -implicitDefEqProofs[jJ,-qA,-qB,-qF,h,g,g1,d0];exact⟨by omega,⟨by omega,hs (by rw[hX];simp[c0])⟩,by omega⟩
   ·rw[hn (by rw[hX];simp[c0])]at hr
    subst hr;have d0:20<l.length:=by omega
    simp -implicitDefEqProofs[jJ,-qA,-qB,-qF,h,g,g1,d0]
  ·have hi2:i=gs.length:=by omega
   subst hi2;rw[HZ he]at hr;subst hr;simp -implicitDefEqProofs[jJ,-qA,-qB,-qF]
end Go.Va
namespace Go.Va
open Go.Proofs
theorem SK{ds:List Der}{gs:List Grd}(hin: ∀x∈ds,InDer x)(h:EM ds gs=true):ds.length≤12∧gs.length≤12∧(∀x∈ds,x.Brief)∧ ∀g∈gs,g.args.length≤20:=by
 unfold EM at h;simp only[AR,decide_eq_true_eq,jzy]at h;obtain⟨h1,h2,h3,h4⟩:=h;refine⟨h1,h2,fun x hx=> ?_,fun g hg=> ?_⟩
 ·have q:=h3 x hx;have hi:=hin x hx;unfold FM smlF at q;simp only[AR,decide_eq_true_eq]at q;exact⟨⟨by omega,by omega,hi.f.oa,hi.f.od,by omega⟩,q.2.1,q.1,hi.r⟩
 ·have q:=h4 g hg;unfold Fo at q
  simpa using q
theorem ZZ{ns:List ByteArray}(h:DW ns=true):ns.length≤60∧ ∀s∈ns,s.size≤30:=by
 unfold DW at h;simp only[AR,decide_eq_true_eq,jzy]at h;exact h
theorem jkj{ds:List Der}{gs:List Grd}(h:EM ds gs=true): ∀x∈ds,x.fact.abs.length≤2∧x.fact.den.length≤2∧x.fact.args.length≤20:=fun x hx=>by
 unfold EM at h;simp only[AR,decide_eq_true_eq,jzy]at h;have q:=h.2.2.1 x hx;unfold FM smlF at q;simp only[AR,decide_eq_true_eq]at q;exact⟨q.2.2.1,q.2.2.2,q.2.1⟩
end Go.Va
namespace Go.Va
open Int renaming natCast_add → qA, natCast_mul → qB, natCast_emod → qC, natCast_ediv → qD, natCast_pow → qE
open List renaming reduceReplicate → qF
open Go.Proofs
def WK(i:Nat)(x:Der):Prop:=(x.frm.length:Int)=Md x.rule∧ ∀a∈x.frm,0≤a∧a<(i:Int)
def XR(ds:List Der)(i:Nat):Prop:= ∀(j:Nat) x,j<i→ds[j]? =some x→WK j x
theorem jjI{ds:List Der}{i:Nat}(h:i<ds.length)(hd:XR ds i)(hx:WK i ds[i]):XR ds (i+1):=fun j x hj hj2=>by
 by_cases e:j=i
 ·subst e;rw[AD h]at hj2;cases hj2;exact hx
 ·exact hd j x (by omega) hj2
theorem jmT{l:List Int}{i k:Nat}(h:k<l.length)(hd: ∀a∈l.take k,0≤a∧a<(i:Int))(h0:0≤l[k])(h1:l[k]<(i:Int)): ∀a∈l.take (k+1),0≤a∧a<(i:Int):=fun a ha=>by
 rw[Cr h]at ha
 rcases List.mem_append.1 ha with ha|ha
 ·exact hd a ha
 ·rw[List.mem_singleton.1 ha];exact⟨h0,h1⟩
def WQ(T:ByteArray)(ds:List Der)(gs:List Grd)(ns:List ByteArray)(i:Nat):St:=
 ⟨[(14,vI .i64 i),(12,vC (.d (.str T))),(4,vC (.ptr 4 0)),(2,vC (.d (A6 ns)))],[(4,.box [.d (Dh ds),.d (Dd gs)])]⟩
def Ye(T:ByteArray)(ds:List Der)(gs:List Grd)(ns:List ByteArray)(i k:Nat):St:=
 ⟨[(15,vI .i64 k),(14,vI .i64 i),(12,vC (.d (.str T))),(4,vC (.ptr 4 0)),(2,vC (.d (A6 ns)))],[(4,.box [.d (Dh ds),.d (Dd gs)])]⟩
theorem jgS(s:ByteArray)(ds:List Der)(gs:List Grd)(ns:List ByteArray)(hin: ∀x∈ds,InDer x):CallsF Tryz.prog 3 [.c (.str s),.agg [Dh ds,Dd gs],.c (A6 ns)] (.u (.c (.d (.bool true)))):=by
 have km:=jaJ ds gs;have kn:=Qj ns;have ka:=Z9;by_cases hs:s.size≤1500
 case neg=>
  have hs:1500<s.size:=by omega
  refine cO Tryz.func3 rfl ?_;simp -implicitDefEqProofs[jJ,-qA,-qB,hs]
  (first|refine Ac ka ?_|refine Ae ka ?_)
  simp -implicitDefEqProofs[jJ,-qA,-qB]
 have hs': ¬1500<s.size:=by omega
 cases hm:EM ds gs with
 |false=>
  rw[hm]at km
  refine cO Tryz.func3 rfl ?_;simp -implicitDefEqProofs[jJ,-qA,-qB,hs']
  (first|refine Ac km ?_|refine Ae km ?_)
  simp -implicitDefEqProofs[jJ,-qA,-qB]
  (first|refine Ac ka ?_|refine Ae ka ?_)
  simp -implicitDefEqProofs[jJ,-qA,-qB]
 |true=>
 rw[hm]at km
 cases hn:DW ns with
 |false=>
  rw[hn]at kn
  refine cO Tryz.func3 rfl ?_;simp -implicitDefEqProofs[jJ,-qA,-qB,hs']
  (first|refine Ac km ?_|refine Ae km ?_)
  simp -implicitDefEqProofs[jJ,-qA,-qB]
  (first|refine Ac kn ?_|refine Ae kn ?_)
  simp -implicitDefEqProofs[jJ,-qA,-qB]
  (first|refine Ac ka ?_|refine Ae ka ?_)
  simp -implicitDefEqProofs[jJ,-qA,-qB]
 |true=>
 rw[hn]at kn
 obtain⟨n1,n2⟩:=ZZ hn
 have kr:=jgJ ns n1 n2;cases hr:Rh ns with
 |false=>
  rw[hr]at kr
  refine cO Tryz.func3 rfl ?_;simp -implicitDefEqProofs[jJ,-qA,-qB,hs']
  (first|refine Ac km ?_|refine Ae km ?_)
  simp -implicitDefEqProofs[jJ,-qA,-qB]
  (first|refine Ac kn ?_|refine Ae kn ?_)
  simp -implicitDefEqProofs[jJ,-qA,-qB]
  (first|refine Ac kr ?_|refine Ae kr ?_)
  simp -implicitDefEqProofs[jJ,-qA,-qB]
  (first|refine Ac ka ?_|refine Ae ka ?_)
  simp -implicitDefEqProofs[jJ,-qA,-qB]
 |true=>
 rw[hr]at kr
 obtain⟨h1,h2,h3,h4⟩:=SK hin hm
 have h5:=jkj hm;have hok:=jgB hr;have hA: ∀x:ByteArray,x.size≤100000→Qf x:=fun x hx=>jm3 (fun w h=>h.2.2) x hx
 have k1:=jdP hA ns hok.2 n1 n2 s (by omega)
 obtain⟨⟨xs,ys,m,e⟩,hR⟩: ∃R,R=KQ ns [] [] 1 (B s):=⟨_,rfl⟩
 rw[←hR]at k1
 unfold PA at k1;simp only at k1;have kb:e=0→CallsF Tryz.prog 9 [.agg [Dh xs,Dd ys],.c (A6 ns)] (.tup [.c (.d (.str s)),.c (.d (.int .i64 0))]):=fun he=>jl7 ns hok.2 n1 n2 s hs (by rw[←hR,he])
 have k2:=NE ds gs ns (by omega) (by omega) h3 h4 n1 n2
 have k3:=fun he hp=>jmk hA ns hok n1 n2 ds gs h1 h2 (fun x hx=>⟨(h3 x hx).m,h5 x hx⟩) h4 he hp
 have hl:textE ns.length ds gs=0→ ∀x∈ds,x.fact.Mild∧(x.fact.kind=9→CV x.fact.neg x.fact.abs x.fact.den=true)∧x.frm.length≤1000:=fun he x hx=>by
  have hl: ∀x∈ds,lineE ns.length x=0:=by
   unfold textE at he;by_cases h:CZ (lineE ns.length) ds=0
   ·exact UZ h
   ·rw[if_neg h]at he;exact absurd he h
  have q:=hl x hx;unfold lineE at q;split at q
  ·cases q
  obtain⟨l1,l2,l3⟩:=h5 x hx
  exact⟨⟨by omega,by omega,(h3 x hx).m.oa,(h3 x hx).m.od,by omega⟩,(RS q).2.2.2.1,by have:=(h3 x hx).lf;omega⟩
 have k4:=fun he=>jiM ds gs (hl he) (fun g hg=>by have:=h4 g hg;unfold Grd.Short;omega) (by omega) (by omega)
 have hfl:(ds.flatMap Der.ds).length=ds.length*7:=So Der.ds_len ds
 have hS:=UQ s;unfold Br at k2;by_cases ht:textE ns.length ds gs=0
 case neg=>
  rw[if_neg ht]at k2
  generalize textE ns.length ds gs=g at*;by_cases he:e=0
  ·have kc:=kb he;subst he;refine cO Tryz.func3 rfl ?_;simp -implicitDefEqProofs[jJ,-qA,-qB,hs']
   (first|refine Ac km ?_|refine Ae km ?_)
   simp -implicitDefEqProofs[jJ,-qA,-qB]
   (first|refine Ac kn ?_|refine Ae kn ?_)
   simp -implicitDefEqProofs[jJ,-qA,-qB]
   (first|refine Ac kr ?_|refine Ae kr ?_)
   simp -implicitDefEqProofs[jJ,-qA,-qB]
   (first|refine Ac k1 ?_|refine Ae k1 ?_)
   simp -implicitDefEqProofs[jJ,-qA,-qB]
   (first|refine Ac kc ?_|refine Ae kc ?_)
   simp -implicitDefEqProofs[jJ,-qA,-qB,hS]
   (first|refine Ac k2 ?_|refine Ae k2 ?_)
   simp -implicitDefEqProofs[jJ,-qA,-qB,ht]
   (first|refine Ac ka ?_|refine Ae ka ?_)
   simp -implicitDefEqProofs[jJ,-qA,-qB]
  ·refine cO Tryz.func3 rfl ?_;simp -implicitDefEqProofs[jJ,-qA,-qB,hs']
   (first|refine Ac km ?_|refine Ae km ?_)
   simp -implicitDefEqProofs[jJ,-qA,-qB]
   (first|refine Ac kn ?_|refine Ae kn ?_)
   simp -implicitDefEqProofs[jJ,-qA,-qB]
   (first|refine Ac kr ?_|refine Ae kr ?_)
   simp -implicitDefEqProofs[jJ,-qA,-qB]
   (first|refine Ac k1 ?_|refine Ae k1 ?_)
   simp -implicitDefEqProofs[jJ,-qA,-qB,he]
   (first|refine Ac k2 ?_|refine Ae k2 ?_)
   simp -implicitDefEqProofs[jJ,-qA,-qB,ht]
   (first|refine Ac ka ?_|refine Ae ka ?_)
   simp -implicitDefEqProofs[jJ,-qA,-qB]
 rw[if_pos ht,ht]at k2
 have k4:=k4 ht;have k3:=k3 ht;by_cases he:e=0
 case' pos=>
  have kc:=kb he;subst he;refine cO Tryz.func3 rfl ?_;simp -implicitDefEqProofs[jJ,-qA,-qB,hs']
  (first|refine Ac km ?_|refine Ae km ?_)
  simp -implicitDefEqProofs[jJ,-qA,-qB]
  (first|refine Ac kn ?_|refine Ae kn ?_)
  simp -implicitDefEqProofs[jJ,-qA,-qB]
  (first|refine Ac kr ?_|refine Ae kr ?_)
  simp -implicitDefEqProofs[jJ,-qA,-qB]
  (first|refine Ac k1 ?_|refine Ae k1 ?_)
  simp -implicitDefEqProofs[jJ,-qA,-qB]
  (first|refine Ac kc ?_|refine Ae kc ?_)
  simp -implicitDefEqProofs[jJ,-qA,-qB,hS]
  (first|refine Ac k2 ?_|refine Ae k2 ?_)
  simp -implicitDefEqProofs[jJ,-qA,-qB]
 case' neg=>
  refine cO Tryz.func3 rfl ?_;simp -implicitDefEqProofs[jJ,-qA,-qB,hs']
  (first|refine Ac km ?_|refine Ae km ?_)
  simp -implicitDefEqProofs[jJ,-qA,-qB]
  (first|refine Ac kn ?_|refine Ae kn ?_)
  simp -implicitDefEqProofs[jJ,-qA,-qB]
  (first|refine Ac kr ?_|refine Ae kr ?_)
  simp -implicitDefEqProofs[jJ,-qA,-qB]
  (first|refine Ac k1 ?_|refine Ae k1 ?_)
  simp -implicitDefEqProofs[jJ,-qA,-qB,he]
  (first|refine Ac k2 ?_|refine Ae k2 ?_)
  simp -implicitDefEqProofs[jJ,-qA,-qB]
 all_goals
  generalize Ch (C4 ns ds gs)=T at*;clear k1 k2 km kn kr;clear kb;refine AV (fun i:Nat=>WQ T ds gs ns i) (fun i=>i≤ds.length∧XR ds i) (fun i=>ds.length - i) 0 (by simp[WQ,AW,lk,St.le,vI,vC]) ⟨by omega,fun j x h=>absurd h (by omega)⟩ ?_
  rintro i ⟨hi,hd⟩
  unfold WQ;by_cases h:i<ds.length
  ·have g5:(ds.flatMap Der.ds)[i*7+5]? =some (.int .i64 ds[i].rule):=by
    have:=congrArg (fun l:List D=>l[5]?) (Xp ds i h)
    simpa [List.getElem?_take,List.getElem?_drop,Der.ds,Fct.ds]using this
   have g6:(ds.flatMap Der.ds)[i*7+6]? =some (AT ds[i].frm):=by
    have:=congrArg (fun l:List D=>l[6]?) (Xp ds i h)
    simpa [List.getElem?_take,List.getElem?_drop,Der.ds,Fct.ds]using this
   have b1:i*7+7≤ds.length*7:=by omega
   have kp:=jaw ds[i].rule;have hds:=fun q=>jjI h hd q
   unfold WK at hds;have hlf:=(h3 ds[i] (AZ h)).lf;clear hd;generalize ds[i].rule=r at*;generalize ds[i].frm=l at*;have hlen:lenC (.d (AT l))=some l.length:=rfl;unfold Dh;simp -implicitDefEqProofs[jJ,-qA,-qB,-qF,h];refine AA (Ah [0,1,0,7,15,31,63,0,128,0,896,1920,3968,8064,16383]) [.any [] [] (Aq [[4],[77],[14],[78,79],[80],[81],[82],[4],[84],[14],[85,86],[87],[88],[89]]),.one] (by rfl) ?_
   simp -implicitDefEqProofs[jJ,-qA,-qB,-qF,h,g5,g6,hfl,hlen,b1];refine⟨_,kp,?_⟩;by_cases hp:(l.length:Int)=Md r
   case neg=>
    simp -implicitDefEqProofs[jJ,-qA,-qB,-qF,hp]
    (first|refine Ac ka ?_|refine Ae ka ?_)
    simp -implicitDefEqProofs[jJ,-qA,-qB,-qF]
   simp -implicitDefEqProofs[jJ,-qA,-qB,-qF,hp];refine AV (fun k:Nat=>Ye T ds gs ns i k) (fun k=>k≤l.length∧ ∀a∈l.take k,0≤a∧a<(i:Int)) (fun k=>l.length - k) 0 (by simp[Ye,AW,lk,St.le,vI,vC,Dh]) ⟨by omega,fun a ha=>by simp at ha⟩ ?_
   rintro k ⟨hk,hkd⟩
   unfold Ye Dh;by_cases h':k<l.length
   ·have hks:=fun h0 h1=>jmT h' hkd h0 h1
    clear hkd;obtain⟨a,hla⟩: ∃a,l[k]=a:=⟨_,rfl⟩;rw[hla]at hks;by_cases a0:a<0
    ·simp -implicitDefEqProofs[jJ,-qA,-qB,-qF,h,g6,hfl,hlen,h',hla,i64,a0]
     (first|refine Ac ka ?_|refine Ae ka ?_)
     simp -implicitDefEqProofs[jJ,-qA,-qB,-qF]
    ·by_cases a1:(i:Int)≤a
     ·simp -implicitDefEqProofs[jJ,-qA,-qB,-qF,h,g6,hfl,hlen,h',hla,i64,a0,a1]
      (first|refine Ac ka ?_|refine Ae ka ?_)
      simp -implicitDefEqProofs[jJ,-qA,-qB,-qF]
     ·simp -implicitDefEqProofs[jJ,-qA,-qB,-qF,h,g6,hfl,hlen,h',hla,i64,a0,a1];exact⟨by omega,⟨by omega,hks (by omega) (by omega)⟩,by omega⟩
   ·have hk2:k=l.length:=by omega
    subst hk2;rw[BM]at hkd;simp -implicitDefEqProofs[jJ,-qA,-qB,-qF,h,g6,hfl,hlen];exact⟨by omega,⟨by omega,hds ⟨hp,hkd⟩⟩,by omega⟩
  ·have k3:=k3 fun j x hj=>hd j x (by have:=(jzg.1 hj).1;omega) hj
   clear hd;have hdl:lenC (.d (Dh ds))=some ds.length:=rfl;simp -implicitDefEqProofs[jJ,-qA,-qB,-qF,h,hdl]
   (first|refine Ac k3 ?_|refine Ae k3 ?_)
   simp -implicitDefEqProofs[jJ,-qA,-qB,-qF]
   (first|refine Ac k4 ?_|refine Ae k4 ?_)
   simp -implicitDefEqProofs[jJ,-qA,-qB,-qF]
   (first|refine Ac ka ?_|refine Ae ka ?_)
   simp -implicitDefEqProofs[jJ,-qA,-qB,-qF]
end Go.Va
