/- a part of the proof -/
import Derived.Test.YtkfdniccmcolgaaGreatWca
import Derived.Test.YtkfdniccmcolgaaGreatWbd
set_option linter.all false
set_option maxHeartbeats 4000000
set_option maxRecDepth 100000
namespace Go.Va
open Int (natCast_add natCast_mul natCast_emod natCast_ediv natCast_pow)
open Go.Proofs
theorem Pc{L:List Fnd}(h:FndOk L): ∀f∈factsL L,f.Rt:=fun f hf=>by
 obtain⟨x,hx,rfl⟩:=jzk.1 hf
 exact h.rt x hx
theorem Iz{l:List Fct}(h:Dl l=true)(ho: ∀f∈l,Ok f.abs∧Ok f.den):l.length≤4∧(∀f∈l,f.Mild)∧ ∀f∈l,f.Short2:=by
 unfold Dl at h;simp only[Ax,decide_eq_true_eq,jzy]at h;refine⟨h.1,fun f hf=> ?_,fun f hf=> ?_⟩
 ·have h2:=h.2 f hf;unfold GA at h2;simp only[Ax,decide_eq_true_eq]at h2;exact⟨by omega,by omega,(ho f hf).1,(ho f hf).2,by omega⟩
 ·have h2:=h.2 f hf;unfold GA at h2;simp only[Ax,decide_eq_true_eq]at h2;exact⟨h2.1.2,h2.2⟩
theorem Ni(l:List Fct):CallsF Tryz.prog 8 [.c (fctsD l)] (.u (.c (.d (.bool (Dl l))))):=by
 by_cases h4:l.length≤4
 ·exact jan l (by omega)
 ·have e:Dl l=false:=by unfold Dl;rw[decide_eq_false h4];rfl
  rw[e]
  have h5:4<l.length:=by omega
  refine Ae (T:=tb) Ad mixed Tryz.func8 rfl (by decide) (Ac rfl) rfl ?_;unfold St.init
  simp -implicitDefEqProofs[jJ,-natCast_add,-natCast_mul,h4,h5]
theorem Ro(n:Int)(ps:List Fct)(hps: ∀f∈ps,f.Mild)(hs: ∀f∈ps,f.Short2)(hl:ps.length≤1000):
  CallsF Tryz.prog 10 [.c (.int .i64 n),.c (fctsD ps)] (.tup [.c (.d (fctsD (factsL (allR n ps)))),.c (.d (grdsD (BV (Bq (allR n ps)))))])∧
  CallsF Tryz.prog 11 [.c (.int .i64 n),.c (fctsD ps)] (.tup [.c (.d (fctsD (factsL (allR n ps)))),.c (.d (grdsD (BV (Bq (allR n ps)))))])∧
  CallsF Tryz.prog 12 [.c (fctsD (factsL (allR n ps))),.c (fctsD (factsL (allR n ps)))] (.u (.c (.d (.bool true))))∧
  CallsF Tryz.prog 13 [.c (grdsD (BV (Bq (allR n ps)))),.c (grdsD (BV (Bq (allR n ps))))] (.u (.c (.d (.bool true)))):=by
 have o1:=Ge n ps hps hs;have k1:=W2 n ps hps hs hl;rw[IC n ps hps hs]at o1 k1;have k2:=V9 n ps hps hs hl;have hg:=QQ n ps;generalize allR n ps=L at*;refine⟨k1,jcN n ps L o1.1 hg o1.2 k2,?_,?_⟩
 ·have:=jaL (factsL L) (factsL L) (Pc o1.1) (Pc o1.1) (by simp only[factsL,List.length_map];have:=o1.2;omega)
  rwa [decide_eq_true rfl]at this
 ·have hs: ∀g'∈BV (Bq L),g'.Short:=fun g' hg'=>Qj o1.1 g' (VM hg')
  have hl:=Rb (Bq L);have hl2:=K8 o1.1;have:=QK (BV (Bq L)) (BV (Bq L)) hs hs (by have:=o1.2;omega) (fun _ _ _ _=> .inr (.inr rfl))
  rwa [decide_eq_true rfl]at this
theorem jaJ(n:Int)(ps:List Fct)(ho: ∀f∈ps,Ok f.abs∧Ok f.den):CallsF Tryz.prog 3 [.c (.int .i64 n),.c (fctsD ps)] (.u (.c (.d (.bool true)))):=by
 have km:=Ni ps;have aw:=TX;have key:Dl ps=true→_:=fun h=>by
  have hm:=Iz h ho;exact Ro n ps hm.2.1 hm.2.2 (by have:=hm.1;omega)
 refine Ae (T:=tb) Ad mixed Tryz.func3 rfl (by decide) (Ac rfl) rfl ?_;unfold St.init
 simp -implicitDefEqProofs[jJ,-natCast_add,-natCast_mul];refine Aa km ?_;cases hm:Dl ps with
 |false=>
  simp -implicitDefEqProofs[jJ,-natCast_add,-natCast_mul];refine Aa aw ?_;simp -implicitDefEqProofs[jJ,-natCast_add,-natCast_mul]
 |true=>
  obtain⟨h1,h2,h3,h4⟩:=key hm
  clear key km ho;generalize fctsD (factsL (allR n ps))=dl at*;generalize grdsD (BV (Bq (allR n ps)))=da at*;simp -implicitDefEqProofs[jJ,-natCast_add,-natCast_mul];refine Aa h1 ?_;simp -implicitDefEqProofs[jJ,-natCast_add,-natCast_mul];refine Aa h2 ?_;simp -implicitDefEqProofs[jJ,-natCast_add,-natCast_mul];refine Aa h3 ?_;simp -implicitDefEqProofs[jJ,-natCast_add,-natCast_mul];refine Aa h4 ?_;simp -implicitDefEqProofs[jJ,-natCast_add,-natCast_mul];refine Aa aw ?_;simp -implicitDefEqProofs[jJ,-natCast_add,-natCast_mul]
theorem XV(n:Int)(ps:List Fct)(f:Fct)(hps: ∀f∈ps,f.Mild)(hs: ∀f∈ps,f.Short2)(hl:ps.length≤1000)(hf:f.Mild):
  CallsF Tryz.prog 14 [.c (.int .i64 n),.c (fctsD ps),.agg f.ds] (.tup [.c (.d (grdsD (BZ (allR n ps) f).1)),.c (.d (.bool (BZ (allR n ps) f).2))])∧
  CallsF Tryz.prog 15 [.c (.int .i64 n),.c (fctsD ps),.agg f.ds] (.tup [.c (.d (grdsD (BZ (allR n ps) f).1)),.c (.d (.bool (BZ (allR n ps) f).2))])∧
  CallsF Tryz.prog 13 [.c (grdsD (BZ (allR n ps) f).1),.c (grdsD (BZ (allR n ps) f).1)] (.u (.c (.d (.bool true)))):=by
 have o1:=Ge n ps hps hs;have k1:=jad n ps f hf hps hs hl;have e:=Z6 (n:=n) hps hs hf;rw[IC n ps hps hs]at o1 k1 e;have k2:=V9 n ps hps hs hl;have hg:=QQ n ps;generalize allR n ps=L at*;refine⟨?_,jcp n ps f hf L (fun x hx=>(o1.1.rt x hx).mild) o1.2 k2,?_⟩
 ·rw[←e]
  by_cases h:(normF f).kind=0
  ·rw[if_pos h]at k1 ⊢
   exact k1
  ·rw[if_neg h]at k1 ⊢
   exact k1
 ·have hin: ∀g∈(BZ L f).1,g.Short:=fun g hg=>by
   unfold BZ at hg;split at hg
   ·rename_i x hx
    exact(o1.1.sh x (List.mem_of_find?_eq_some hx)).2 g hg
   ·cases hg
  have hlen:(BZ L f).1.length≤10:=by
   unfold BZ;split
   ·rename_i x hx
    exact(o1.1.sh x (List.mem_of_find?_eq_some hx)).1
   ·simp
  have:=QK (BZ L f).1 (BZ L f).1 hin hin (by omega) (fun _ _ _ _=> .inr (.inr rfl))
  rwa [decide_eq_true rfl]at this
theorem jds(n:Int)(ps:List Fct)(f:Fct)(ho: ∀f∈ps,Ok f.abs∧Ok f.den)(hf:Ok f.abs∧Ok f.den):CallsF Tryz.prog 4 [.c (.int .i64 n),.c (fctsD ps),.agg f.ds] (.u (.c (.d (.bool true)))):=by
 have km:=Ni ps;have kf:=Ni [f];have aw:=TX;have key:Dl ps=true→_:=fun h=>by
  have hm:=Iz h ho;exact Ro n ps hm.2.1 hm.2.2 (by have:=hm.1;omega)
 have kfo:Dl ps=true→Dl [f]=true→_:=fun h h2=>by
  have hm:=Iz h ho;have hm2:=Iz (l:=[f]) h2 (by simpa using hf)
  exact fun g (hg:g.Mild)=>XV n ps g hm.2.1 hm.2.2 (by have:=hm.1;omega) hg
 have hfm:Dl [f]=true→f.Mild:=fun h2=>(Iz (l:=[f]) h2 (by simpa using hf)).2.1 f (by simp)
 have hml:Dl ps=true→(∀g∈factsL (allR n ps),g.Mild)∧(factsL (allR n ps)).length≤100000000000:=fun h=>by
  have hm:=Iz h ho;have o1:=Ge n ps hm.2.1 hm.2.2;rw[IC n ps hm.2.1 hm.2.2]at o1;exact⟨fun g hg=>(Pc o1.1 g hg).mild,by simpa [factsL]using o1.2⟩
 simp only[fctsD,List.flatMap_cons,List.flatMap_nil,List.append_nil,Fct.ds,List.cons_append,List.nil_append,List.length_cons,List.length_nil,Nat.zero_add,Nat.reduceAdd]at kf;have ho:=0;refine Ae (T:=tb) Ad mixed Tryz.func4 rfl (by decide) (Ac rfl) rfl ?_;unfold St.init
 simp only[Fct.ds];simp -implicitDefEqProofs[jJ,-natCast_add,-natCast_mul];refine Aa km ?_;cases hm:Dl ps with
 |false=>
  simp -implicitDefEqProofs[jJ,-natCast_add,-natCast_mul];refine Aa aw ?_;simp -implicitDefEqProofs[jJ,-natCast_add,-natCast_mul]
 |true=>
  simp -implicitDefEqProofs[jJ,-natCast_add,-natCast_mul];refine Aa kf ?_;cases hm2:Dl [f]with
  |false=>
   simp -implicitDefEqProofs[jJ,-natCast_add,-natCast_mul];refine Aa aw ?_;simp -implicitDefEqProofs[jJ,-natCast_add,-natCast_mul]
  |true=>
   obtain⟨_,h2,_,_⟩:=key hm
   have kfo:=kfo hm hm2;have hfm:=hfm hm2;obtain⟨hL,hlL⟩:=hml hm;clear key km kf hml hm hm2;generalize factsL (allR n ps)=L at*;generalize grdsD (BV (Bq (allR n ps)))=da at*;generalize allR n ps=R at*;simp -implicitDefEqProofs[jJ,-natCast_add,-natCast_mul];refine Aa h2 ?_;simp -implicitDefEqProofs[jJ,-natCast_add,-natCast_mul];refine Af (Aj [0,0,3,0,8,31,63]) [.any [] [30,32,34] [⟨1,[],[34],[32,34],[]⟩,⟨0,[7],[30,34],[30,32,34],[]⟩,⟨3,[30,31],[34],[34],[30]⟩,⟨0,[5],[30,32],[30,32,34],[]⟩,⟨1,[33],[30,32],[30,32],[]⟩],.one,.one] (by rfl) ?_
   simp -implicitDefEqProofs[jJ,-natCast_add,-natCast_mul];refine⟨⟨by omega,by omega⟩,⟨by omega,by omega⟩,?_⟩
   have hM: ∀g∈L++[f],g.Mild:=fun g hg=>by
    rcases List.mem_append.1 hg with hg|hg
    ·exact hL g hg
    ·obtain rfl:g=f:=by simpa using hg
     exact hfm
   have eM:L.flatMap Fct.ds++[.int .i64 f.kind,intsD f.args,.bool f.neg,Ab f.abs,Ab f.den]=(L++[f]).flatMap Fct.ds:=by simp[Fct.ds]
   have lM:(L++[f]).length=L.length+1:=by simp
   rw[eM]
   have hlM:L.length+1≤100000000001:=by omega
   clear eM;rw[←lM]at hlM ⊢;clear lM hL;generalize L++[f]=M at*;have kfo:=fun i (hi:i<M.length)=>kfo M[i] (hM _ (Ak hi))
   simp only[Fct.ds]at kfo;refine Av (fun i:Nat=>⟨[(9,vI .i64 i),(7,vC (.sl 35 0 M.length)),(0,vI .i64 n),(1,vC (.d (fctsD ps)))],[(35,.row 5 (M.flatMap Fct.ds) true)]⟩)
    (fun i=>i≤M.length) (fun i=>M.length - i) 0 (by simp[An,lk,St.le,vI,vC]) (by omega) ?_
   rintro i hi
   by_cases h:i<M.length
   ·obtain⟨k1,k2,k3⟩:=kfo i h
    have e2:=DO h;have e3:List.take 5 (List.drop (i*5) (List.map C.d (M.flatMap Fct.ds)))=[.d (.int .i64 M[i].kind),.d (intsD M[i].args),.d (.bool M[i].neg),.d (Ab M[i].abs),.d (Ab M[i].den)]:=by
     rw[←List.map_drop,DZ Fct.ds_len,e2]
     rfl
    generalize grdsD (BZ R M[i]).1=dg at*;generalize (BZ R M[i]).2=bg at*;simp -implicitDefEqProofs[jJ,-natCast_add,-natCast_mul,h,e3];refine⟨by omega,?_⟩
    refine Aa k1 ?_;simp -implicitDefEqProofs[jJ,-natCast_add,-natCast_mul,h,e3];refine⟨by omega,?_⟩
    refine Aa k2 ?_;simp -implicitDefEqProofs[jJ,-natCast_add,-natCast_mul];refine Aa k3 ?_
    simp -implicitDefEqProofs[jJ,-natCast_add,-natCast_mul];exact⟨by omega,by omega,by omega⟩
   ·have hi2:i=M.length:=by omega
    subst hi2;simp -implicitDefEqProofs[jJ,-natCast_add,-natCast_mul];refine Aa aw ?_;simp -implicitDefEqProofs[jJ,-natCast_add,-natCast_mul]
end Go.Va
