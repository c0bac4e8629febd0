/- a part of the proof -/
import Derived.Test.YtkfdniccmcolgaaGreatQbh
import Derived.Test.YtkfdniccmcolgaaGreatQao
import Derived.Test.YtkfdniccmcolgaaGreatQap
import Derived.Deep.Slices
import Derived.Test.YtkfdniccmcolgaaGreatQay
import Derived.Test.YtkfdniccmcolgaaGreatQaq
set_option linter.all false
set_option maxHeartbeats 4000000
set_option maxRecDepth 100000
namespace Go.Va
open Int (natCast_add natCast_mul natCast_emod natCast_ediv natCast_pow)
open Go.Proofs
def ptsAt(pts:List Pq)(al:List Int):List Pq:=al.map fun i=>pts.getD i.toNat ⟨0,0⟩
theorem Vd(k:Int):arity k≤8:=by
 unfold arity;split
 ·omega
 split
 ·omega
 split
 ·omega
 split<;>omega
theorem Fa{f:Fct}{n:Int}(h:FW f n=0):arity f.kind≠0∧f.args.length=arity f.kind∧(∀a∈f.args,0≤a∧a<n)∧
  (if f.kind=9 then BR f.neg f.abs f.den=true else f.neg=false∧f.abs=[]∧f.den=[]):=by
 have:=h
 unfold FW at this;by_cases h1:arity f.kind=0
 ·rw[if_pos h1]at this;cases this
 rw[if_neg h1]at this
 by_cases h2:f.args.length≠arity f.kind
 ·rw[if_pos h2]at this;cases this
 rw[if_neg h2]at this
 by_cases h3:f.args.any (fun a=>decide (a<0)||decide (n≤a))=true
 ·rw[if_pos h3]at this;cases this
 rw[if_neg h3]at this
 refine⟨h1,by omega,fun a ha=> ?_,?_⟩
 ·simp only[List.any_eq_true,not_exists,Bool.or_eq_true,decide_eq_true_eq,not_and,not_or]at h3;have:=h3 a ha;omega
 ·by_cases h9:f.kind=9
  ·rw[if_pos h9]at this ⊢
   by_cases h4:BR f.neg f.abs f.den=true
   ·exact h4
   ·rw[if_neg h4]at this;cases this
  ·rw[if_neg h9]at this ⊢
   by_cases h4:EY f.neg f.abs f.den=true
   ·unfold EY at h4;simp only[Ax,Bool.not_eq_true',decide_eq_true_eq]at h4;exact⟨h4.1.1,h4.1.2,h4.2⟩
   ·rw[if_neg h4]at this;cases this
theorem Ws(f:Fct)(hf:f.Mild)(pts:List Pq)(hn:pts.length≤1000)(hr:FW f pts.length=0)(l:List Rat)
  (hv:CallsF Tryz.prog 82 [.agg f.ds,.c (AP (ptsAt pts f.args))] (.u (.c (.d (Bt l))))):
  CallsF Tryz.prog 40 [.agg f.ds,.c (AP pts)] (.tup [.c (.d (Bt l)),.c (.d (.int .i64 0))]):=by
 have kr:=jbs f hf pts.length;obtain⟨_,hal,hag,_⟩:=Fa hr;have hl8:f.args.length≤8:=by rw[hal];exact Vd _
 have hin: ∀i (h:i<f.args.length),0≤f.args[i]∧f.args[i]<pts.length:=fun i h=>hag _ (Ak h)
 clear hal hag;rw[hr]at kr;clear hr hf;have ek: ∀i (h:i<f.args.length),ptsAt pts (f.args.take (i+1))=ptsAt pts (f.args.take i)++[pts.getD f.args[i].toNat ⟨0,0⟩]:=fun i h=>by
  unfold ptsAt;rw[AQ h,List.map_append];rfl
 have el: ∀i,i≤f.args.length→(ptsAt pts (f.args.take i)).length=i:=fun i h=>by unfold ptsAt;simp;omega
 have ef:ptsAt pts (f.args.take f.args.length)=ptsAt pts f.args:=by rw[AZ]
 simp only[Fct.ds]at*;refine Ae (T:=tb) Ad mixed Tryz.func40 rfl (by decide) (Ac rfl) rfl ?_;unfold St.init
 simp -implicitDefEqProofs[jJ,-natCast_add,-natCast_mul]
 (first|refine Aa kr ?_|refine Al kr ?_)
 simp -implicitDefEqProofs[jJ,-natCast_add,-natCast_mul];refine BA [(7,30)] (fun i:Nat=>⟨[(20,vI .i64 i),(19,vI .i64 f.args.length),(18,vC (.d (intsD f.args))),(7,vC (.sl 7 0 i)),(2,vC (.ptr 2 0)),(1,vC (.d (AP pts)))],[(7,.row 6 ((ptsAt pts (f.args.take i)).flatMap Pq.ds) true),(2,.box [.d (.int .i64 f.kind),.d (intsD f.args),.d (.bool f.neg),.d (Ab f.abs),.d (Ab f.den)])]⟩)
  (fun i=>i≤f.args.length) (fun i=>f.args.length - i) 0 (by simp[An,lk,St.le,vI,vC,ptsAt]) (by omega) ?_
 rintro i hi
 by_cases h:i<f.args.length
 ·have hin:=hin i h;have ek:=ek i h;have el:=el i hi;obtain⟨g1,g2⟩:=hin;have ha:f.args[i].toNat<pts.length:=by omega
  have e2:=Ji ha;have e3:pts.getD f.args[i].toNat ⟨0,0⟩=pts[f.args[i].toNat]:=by rw[Ar,Ai ha];rfl
  rw[e3]at ek
  obtain⟨b1,n1,d1,b2,n2,d2,hds⟩: ∃b1 n1 d1 b2 n2 d2,pts[f.args[i].toNat].ds=[.bool b1,Ab n1,Ab d1,.bool b2,Ab n2,Ab d2]:=⟨_,_,_,_,_,_,rfl⟩
  rw[hds]at e2
  simp only[List.cons_append,List.nil_append]at e2;generalize hp:pts[f.args[i].toNat]=p at*;generalize hk:f.args[i]=k at*;have hlt:k<(pts.length:Int):=g2;have hki:k.toNat<pts.length:=ha;simp -implicitDefEqProofs[jJ,-natCast_add,-natCast_mul,h,i64,hk,g1,hlt,hki,e2,el];refine⟨⟨by omega,by omega⟩,by omega,i+1,⟨rfl,?_⟩,by omega,by omega⟩
  rw[ek,List.flatMap_append,List.flatMap_cons,List.flatMap_nil,List.append_nil,hds]
 ·have hi2:i=f.args.length:=by omega
  subst hi2;have e:(ptsAt pts f.args).length=f.args.length:=by
   have:=el f.args.length (by omega)
   rwa [ef]at this
  have e4:D.slice f.args.length (List.take (f.args.length*6) ((ptsAt pts f.args).flatMap Pq.ds))=AP (ptsAt pts f.args):=by
   rw[AI (by rw[J2];omega),←e]
   rfl
  rw[ef]
  simp -implicitDefEqProofs[jJ,-natCast_add,-natCast_mul];rw[e4];refine .inl ⟨by omega,_,hv,?_⟩
  simp -implicitDefEqProofs[jJ,-natCast_add,-natCast_mul]
theorem UM(f:Fct)(hf:f.Mild)(pts:List Pq)(hr:FW f pts.length≠0):
  CallsF Tryz.prog 40 [.agg f.ds,.c (AP pts)] (.tup [.c (.d (.slice 0 [])),.c (.d (.int .i64 (FW f pts.length)))]):=by
 have kr:=jbs f hf pts.length;generalize FW f pts.length=e at*;clear hf;simp only[Fct.ds]at*;refine Ae (T:=tb) Ad mixed Tryz.func40 rfl (by decide) (Ac rfl) rfl ?_;unfold St.init
 simp -implicitDefEqProofs[jJ,-natCast_add,-natCast_mul]
 (first|refine Aa kr ?_|refine Al kr ?_)
 simp -implicitDefEqProofs[jJ,-natCast_add,-natCast_mul,hr]
theorem XP(f:Fct)(P:D)(e:Int)(he:e≠0)(l:D)
  (hV:CallsF Tryz.prog 40 [.agg f.ds,.c P] (.tup [.c (.d l),.c (.d (.int .i64 e))])):
  CallsF Tryz.prog 23 [.agg f.ds,.c P] (.tup [.c (.d (.bool false)),.c (.d (.int .i64 e))]):=by
 simp only[Fct.ds]at*;refine Ae (T:=tb) Ad mixed Tryz.func23 rfl (by decide) (Ac rfl) rfl ?_;unfold St.init
 simp -implicitDefEqProofs[jJ,-natCast_add,-natCast_mul]
 (first|refine Aa hV ?_|refine Al hV ?_)
 simp -implicitDefEqProofs[jJ,-natCast_add,-natCast_mul,he]
structure Rp where
 n1:Bool
 a1:List Nat
 d1:List Nat
 n2:Bool
 a2:List Nat
 d2:List Nat
def Rp.ds(p:Rp):List D:=[.bool p.n1,Ab p.a1,Ab p.d1,.bool p.n2,Ab p.a2,Ab p.d2]
theorem Rp.ds_len(p:Rp):p.ds.length=6:=rfl
def CF(l:List Rp):D:= .slice l.length (l.flatMap Rp.ds)
@[simp high]theorem OT(l:List Rp):(l.flatMap Rp.ds).length=l.length*6:=EO Rp.ds_len l
@[simp]theorem lenC_rps(l:List Rp):lenC (.d (CF l))=some l.length:=rfl
@[simp]theorem flat_rps(l:List Rp):D.flat (CF l)=false:=rfl
@[simp]theorem jcd(h:List (Nat×Blk))(i:Int)(l:List Rp):idxSl h 6 i (.d (CF l))=if 0≤i∧i<l.length then some (.d (.ref ((l.drop i.toNat).flatMap Rp.ds))) else none:=by
 unfold CF idxSl;simp only[OT,and_true,DZ Rp.ds_len]
theorem QQ{l:List Rp}{i:Nat}(h:i<l.length):(l.drop i).flatMap Rp.ds= .bool l[i].n1::Ab l[i].a1::Ab l[i].d1:: .bool l[i].n2::Ab l[i].a2::Ab l[i].d2::(l.drop (i+1)).flatMap Rp.ds:=by
 rw[AD h];rfl
structure Rp.Ok (p:Rp):Prop where
 a1:Va.Ok p.a1
 d1:Va.Ok p.d1
 a2:Va.Ok p.a2
 d2:Va.Ok p.d2
def CP(n:Bool)(a d:List Nat):Bool:=decide (a.length≤2)&&decide (d.length≤2)&&BR n a d
theorem Ku(n:Bool)(a d:List Nat)(ha:Ok a)(hd:Ok d):CallsF Tryz.prog 39 [.agg [.bool n,Ab a,Ab d]] (.u (.c (.d (.bool (CP n a d))))):=by
 unfold CP;by_cases h1:a.length≤2
 ·by_cases h2:d.length≤2
  ·have k:=jfi n a d ha (by omega) hd (by omega)
   generalize BR n a d=b at*;refine Ae (T:=tb) Ad mixed Tryz.func39 rfl (by decide) (Ac rfl) rfl ?_;unfold St.init
   simp -implicitDefEqProofs[jJ,-natCast_add,-natCast_mul,h1,h2]
   (first|refine Aa k ?_|refine Al k ?_)
   simp -implicitDefEqProofs[jJ,-natCast_add,-natCast_mul]
  ·refine Ae (T:=tb) Ad mixed Tryz.func39 rfl (by decide) (Ac rfl) rfl ?_;unfold St.init
   simp -implicitDefEqProofs[jJ,-natCast_add,-natCast_mul,h1,h2]
 ·refine Ae (T:=tb) Ad mixed Tryz.func39 rfl (by decide) (Ac rfl) rfl ?_;unfold St.init
  simp -implicitDefEqProofs[jJ,-natCast_add,-natCast_mul,h1]
def Rp.tiny(p:Rp):Bool:=CP p.n1 p.a1 p.d1&&CP p.n2 p.a2 p.d2
def ET(l:List Rp):Bool:=decide (l.length≤10)&&l.all Rp.tiny
theorem NV(l:List Rp)(ho: ∀p∈l,p.Ok):CallsF Tryz.prog 22 [.c (CF l),.c (.slice 0 [])] (.u (.c (.d (.bool (ET l))))):=by
 unfold ET;by_cases h10:l.length≤10
 ·have k1:=fun i (h:i<l.length)=>Ku l[i].n1 l[i].a1 l[i].d1 (ho _ (Ak h)).a1 (ho _ (Ak h)).d1
  have k2:=fun i (h:i<l.length)=>Ku l[i].n2 l[i].a2 l[i].d2 (ho _ (Ak h)).a2 (ho _ (Ak h)).d2
  have hfin:(∀j (h:j<l.length),l[j].tiny=true)→l.all Rp.tiny=true:=fun h3=>by
   rw[jzy]
   intro x hx;obtain⟨j,hj,rfl⟩:=List.mem_iff_getElem.1 hx;exact h3 j hj
  have hcl: ∀i (h:i<l.length),l[i].tiny=false→l.all Rp.tiny=false:=fun i h hn=>by
   rw[List.all_eq_false]
   exact⟨_,Ak h,by simpa using hn⟩
  generalize l.all Rp.tiny=ba at*;have h10': ¬10<l.length:=by omega
  clear ho;refine Ae (T:=tb) Ad mixed Tryz.func22 rfl (by decide) (Ac rfl) rfl ?_;unfold St.init
  simp -implicitDefEqProofs[jJ,-natCast_add,-natCast_mul,h10,h10'];refine Av (fun i:Nat=>⟨[(5,vI .i64 i),(0,vC (.d (CF l))),(1,vC (.d (.slice 0 [])))],[]⟩)
   (fun i=>i≤l.length∧ ∀j (h:j<l.length),j<i→l[j].tiny=true) (fun i=>l.length - i) 0 (by simp[An,lk,St.le,vI,vC]) ⟨by omega,fun j h hj=>by omega⟩ ?_
  rintro i ⟨h2,h3⟩
  by_cases h:i<l.length
  ·have e2:=QQ h;have k1:=k1 i h;have k2:=k2 i h;have hcl:=hcl i h;unfold Rp.tiny at hcl;have h4: ∀j (hj:j<l.length),j<i+1→CP l[i].n1 l[i].a1 l[i].d1=true→CP l[i].n2 l[i].a2 l[i].d2=true→l[j].tiny=true:=fun j hj hp e1 e2=>if e:j=i then by subst e;unfold Rp.tiny;rw[e1,e2];rfl else h3 j hj (by omega)
   cases b1:CP l[i].n1 l[i].a1 l[i].d1 with
   |false=>
    rw[b1]at k1 hcl
    have hcl:=hcl rfl;subst hcl;simp -implicitDefEqProofs[jJ,-natCast_add,-natCast_mul,h,e2]
    (first|refine Aa k1 ?_|refine Al k1 ?_)
    simp -implicitDefEqProofs[jJ,-natCast_add,-natCast_mul]
   |true=>
    rw[b1]at k1 hcl
    cases b2:CP l[i].n2 l[i].a2 l[i].d2 with
    |false=>
     rw[b2]at k2 hcl
     have hcl:=hcl rfl;subst hcl;simp -implicitDefEqProofs[jJ,-natCast_add,-natCast_mul,h,e2]
     (first|refine Aa k1 ?_|refine Al k1 ?_)
     simp -implicitDefEqProofs[jJ,-natCast_add,-natCast_mul,h,e2]
     (first|refine Aa k2 ?_|refine Al k2 ?_)
     simp -implicitDefEqProofs[jJ,-natCast_add,-natCast_mul]
    |true=>
     rw[b2]at k2
     simp -implicitDefEqProofs[jJ,-natCast_add,-natCast_mul,h,e2]
     (first|refine Aa k1 ?_|refine Al k1 ?_)
     simp -implicitDefEqProofs[jJ,-natCast_add,-natCast_mul,h,e2]
     (first|refine Aa k2 ?_|refine Al k2 ?_)
     simp -implicitDefEqProofs[jJ,-natCast_add,-natCast_mul];exact⟨by omega,⟨by omega,fun j hj hp=>h4 j hj hp b1 b2⟩,by omega⟩
  ·have hi2:i=l.length:=by omega
   subst hi2;have hany:=hfin fun j hj=>h3 j hj hj
   subst hany;simp -implicitDefEqProofs[jJ,-natCast_add,-natCast_mul];refine Av (fun i:Nat=>⟨[(6,vI .i64 i),(1,vC (.d (.slice 0 [])))],[]⟩) (fun i=>i=0) (fun i=>0) 0 (by simp[An,lk,St.le,vI,vC]) rfl ?_
   rintro i rfl
   simp -implicitDefEqProofs[jJ,-natCast_add,-natCast_mul]
 ·have h10':10<l.length:=by omega
  refine Ae (T:=tb) Ad mixed Tryz.func22 rfl (by decide) (Ac rfl) rfl ?_;unfold St.init
  simp -implicitDefEqProofs[jJ,-natCast_add,-natCast_mul,h10,h10']
def Rp.pq(p:Rp):Pq:=⟨mkRat (toZ p.n1 (val p.a1)) (val p.d1),mkRat (toZ p.n2 (val p.a2)) (val p.d2)⟩
theorem FO{n:Bool}{a d:List Nat}(ha:Ok a)(hd:Ok d)(h:BR n a d=true):[.bool n,Ab a,Ab d]=AS (mkRat (toZ n (val a)) (val d)):=by
 obtain⟨h1,h2,h3,h4,h5⟩:=C7 h ha hd
 have e1:(mkRat (toZ n (val a)) (val d)).num=toZ n (val a):=by
  rw[Rat.num_mkRat,if_neg h3]
  have:(toZ n (val a)).natAbs=val a:=by unfold toZ;cases n<;>simp
  rw[this,Nat.gcd_comm,h4]
  simp
 have e2:(mkRat (toZ n (val a)) (val d)).den=val d:=by
  rw[Rat.den_mkRat,if_neg h3]
  have:(toZ n (val a)).natAbs=val a:=by unfold toZ;cases n<;>simp
  rw[this,Nat.gcd_comm,h4]
  simp
 have e3:(toZ n (val a)).natAbs=val a:=by unfold toZ;cases n<;>simp
 have e4:decide (toZ n (val a)<0)=n:=by
  unfold toZ;cases n
  ·simp
  ·have:=h5 rfl
   simp only[if_true,decide_eq_true_eq];omega
 unfold AS;rw[e1,e2,e3,e4,←h1,←h2]
theorem GK{n:Bool}{a d:List Nat}{k:Nat}(ha:Ok a)(hd:Ok d)(h:BR n a d=true)(la:a.length≤k)(ld:d.length≤k):Bq (mkRat (toZ n (val a)) (val d)) k:=by
 obtain⟨h1,h2,h3,h4,h5⟩:=C7 h ha hd
 have e3:(toZ n (val a)).natAbs=val a:=by unfold toZ;cases n<;>simp
 have p1:=Nat.lt_of_lt_of_le (C3 _ ha) (Nat.pow_le_pow_right (by decide:0<65536) la)
 have p2:=Nat.lt_of_lt_of_le (C3 _ hd) (Nat.pow_le_pow_right (by decide:0<65536) ld)
 constructor
 ·rw[Rat.num_mkRat,if_neg h3,e3,Nat.gcd_comm,h4]
  simpa [e3]using p1
 ·rw[Rat.den_mkRat,if_neg h3,e3,Nat.gcd_comm,h4]
  simpa using p2
theorem JA{p:Rp}(ho:p.Ok)(h:p.tiny=true):p.ds=p.pq.ds∧p.pq.B 2:=by
 unfold Rp.tiny CP at h;simp only[Ax,decide_eq_true_eq]at h;obtain⟨⟨⟨h1,h2⟩,h3⟩,⟨h4,h5⟩,h6⟩:=h;refine⟨?_,GK ho.a1 ho.d1 h3 h1 h2,GK ho.a2 ho.d2 h6 h4 h5⟩;unfold Pq.ds Rp.pq;simp only;rw[←FO ho.a1 ho.d1 h3,←FO ho.a2 ho.d2 h6];rfl
theorem Rg{l:List Rp}(ho: ∀p∈l,p.Ok)(h:ET l=true):CF l=AP (l.map Rp.pq)∧(∀q∈l.map Rp.pq,q.B 2)∧l.length≤10:=by
 unfold ET at h;simp only[Ax,decide_eq_true_eq,jzy]at h;refine⟨?_,fun q hq=> ?_,h.1⟩
 ·unfold CF AP;rw[List.length_map,List.flatMap_map]
  congr 1
  have: ∀m:List Rp,(∀p∈m,p.ds=p.pq.ds)→m.flatMap Rp.ds=m.flatMap fun p=>p.pq.ds:=by
   intro m hm
   induction m with
   |nil=>rfl
   |cons p m ih=>rw[List.flatMap_cons,List.flatMap_cons,hm p (by simp),ih fun q hq=>hm q (by simp[hq])]
  exact this l fun p hp=>(JA (ho p hp) (h.2 p hp)).1
 ·obtain⟨p,hp,rfl⟩:=jzk.1 hq
  exact(JA (ho p hp) (h.2 p hp)).2
end Go.Va
namespace Go.Va
open Go.Proofs Go.ChangeShapes Go.WideShapes Go.ChangeAt Go.RowKit
theorem jbt(l:List Rp)(j:Nat):(l.flatMap Rp.ds)[j]? =(l[j/6]?).bind fun f=>f.ds[j%6]? :=by
 have e:j=j/6*6+j%6:=by omega
 have h1:(l.flatMap Rp.ds)[j]? =((l.flatMap Rp.ds).drop (j/6*6))[j%6]? :=by
  rw[List.getElem?_drop]
  congr 1
 rw[h1,DZ Rp.ds_len]
 by_cases h:j/6<l.length
 ·rw[AD h,Ai h,List.flatMap_cons,List.getElem?_append_left (by rw[Rp.ds_len];omega)]
  rfl
 ·rw[List.drop_eq_nil_of_le (by omega),BG (l:=l) (by omega)]
  rfl
section
variable {H:Type} {enc:TypeId×Value→H} {w:World} {base:Nat} {sp:Nat→Bool} {hd:Bool}
theorem Jj{fuel:Nat}{cs:List Value}{x:DataW H×List MemPlace}(h:DataW.trod enc Tryz.prog w base sp hd fuel 37 cs=some x):
  ∃(b:Bool) (l m:List Nat) (v3 v4:Value),Ok l∧Ok m∧cs=[.bool b,v3,v4]∧RepD w Z0 (Ab l) v3∧RepD w Z0 (Ab m) v4:=by
 have hc26:Tryz.prog.cellsOf 35=2:=by kernel_rfl
 have hc24:Tryz.prog.cellsOf 33=1:=by kernel_rfl
 have hc28:Tryz.prog.cellsOf 37=3:=by kernel_rfl
 have hc4:Tryz.prog.cellsOf 4=1:=by kernel_rfl
 have some_of: ∀{α:Type} {o:Option α} {l:List α} {i:Nat},o=l[i]? →i<l.length→ ∃y,o=some y:=fun {α o l i} h hi=>⟨l[i],by rw[h,Ai hi]⟩
 obtain⟨ys,n2,_,_,hlen,hy2,hf2⟩:=DataW.trod_struct Tryz.underlying37 h
 rw[hc28]at hlen
 have hy2':ys.length=2:=hy2
 obtain⟨c0,c1,c2,rfl⟩: ∃c0 c1 c2,cs=[c0,c1,c2]:=by
  match cs,hlen with
  |[c0,c1,c2],_=>exact⟨c0,c1,c2,rfl⟩
 obtain⟨z0,k0⟩:=some_of (hf2 0 _ rfl) (by omega)
 obtain⟨z1,k1⟩:=some_of (hf2 1 _ rfl) (by omega)
 simp only[hc26,hc24,List.getElem_toArray,List.getElem_cons_zero,List.getElem_cons_succ,List.drop_zero,List.take_succ_cons,List.take_zero,List.drop_succ_cons]at k0 k1;obtain⟨D4,u4,o4,e4,r4⟩:=Lu k1;obtain⟨zs,n3,_,_,_,hz2,hf3⟩:=DataW.trod_struct Tryz.underlying35 k0;have hz2':zs.length=2:=hz2;obtain⟨q0,j0⟩:=some_of (hf3 0 _ rfl) (by omega)
 obtain⟨q1,j1⟩:=some_of (hf3 1 _ rfl) (by omega)
 simp only[hc4,hc24,List.getElem_toArray,List.getElem_cons_zero,List.getElem_cons_succ,List.drop_zero,List.take_succ_cons,List.take_zero,List.drop_succ_cons]at j0 j1;obtain⟨b,e2,_⟩:=DataW.trod_bool Tryz.underlying4 j0;obtain⟨D3,u3,o3,e3,r3⟩:=Lu j1;cases e2;cases e3;cases e4;exact⟨b,D3,D4,_,_,o3,o4,rfl,r3,r4⟩
theorem SR{fuel:Nat}{cs:List Value}{x:DataW H×List MemPlace}(hlen:cs.length=6)(h:DataW.trod enc Tryz.prog w base sp hd fuel 86 cs=some x):
  ∃p:Rp,p.Ok∧ ∀(j:Nat) (x:D) (u:Value),p.ds[j]? =some x→cs[j]? =some u→RepD w Z0 x u:=by
 have hc28:Tryz.prog.cellsOf 37=3:=by kernel_rfl
 have some_of: ∀{α:Type} {o:Option α} {l:List α} {i:Nat},o=l[i]? →i<l.length→ ∃y,o=some y:=fun {α o l i} h hi=>⟨l[i],by rw[h,Ai hi]⟩
 obtain⟨xs,n,_,_,_,hx,hf⟩:=DataW.trod_struct Tryz.underlying86 h
 have hx2:xs.length=2:=hx
 obtain⟨c0,c1,c2,c3,c4,c5,rfl⟩: ∃c0 c1 c2 c3 c4 c5,cs=[c0,c1,c2,c3,c4,c5]:=by
  match cs,hlen with
  |[c0,c1,c2,c3,c4,c5],_=>exact⟨c0,c1,c2,c3,c4,c5,rfl⟩
 obtain⟨y0,g0⟩:=some_of (hf 0 _ rfl) (by omega)
 obtain⟨y1,g1⟩:=some_of (hf 1 _ rfl) (by omega)
 simp only[hc28,List.getElem_toArray,List.getElem_cons_zero,List.getElem_cons_succ,List.drop_zero,List.take_succ_cons,List.take_zero,List.drop_succ_cons]at g0 g1;obtain⟨b1,l1,m1,v1,v2,o1,o2,e1,r1,r2⟩:=Jj g0;obtain⟨b2,l2,m2,v3,v4,o3,o4,e2,r3,r4⟩:=Jj g1;cases e1;cases e2;refine⟨⟨b1,l1,m1,b2,l2,m2⟩,⟨o1,o2,o3,o4⟩,fun j x u hx hu=> ?_⟩
 match j,hx,hu with
 |0,hx,hu=>cases hx;cases hu;exact .bool _
 |1,hx,hu=>cases hx;cases hu;exact r1
 |2,hx,hu=>cases hx;cases hu;exact r2
 |3,hx,hu=>cases hx;cases hu;exact .bool _
 |4,hx,hu=>cases hx;cases hu;exact r3
 |5,hx,hu=>cases hx;cases hu;exact r4
theorem Pt{r:Reach}{b0:Nat}{v:Value}{d:DataW H}{p:List MemPlace}(hval:Value.okWide Tryz.prog w r b0 48 v)(h:DataW.Trod enc Tryz.prog w base sp hd 48 v d p):
  ∃l:List Rp,(∀f∈l,f.Ok)∧A.rep w Z0 (.c (CF l)) v:=by
 obtain⟨fuel,h⟩:=h
 unfold Value.okWide at hval;rw[Tryz.underlying48]at hval;simp only at hval;unfold Cell.okWide at hval;rw[Tryz.underlying48]at hval;have hv:v.cells.toList=[v]:=by
  cases v with
  |agg cs=>simp[Cell.ok,Tryz.underlying48]at hval
  |_=>rfl
 rw[hv]at h
 have hc6:Tryz.prog.cellsOf 86=6:=by kernel_rfl
 rcases Go.Deep.open_slice Tryz.underlying48 h with⟨e,_⟩|⟨a,len,cap,m,n,DD,Pl,e,_,h1,h2,h3,_,h4⟩
 ·obtain rfl:v= .slice none 0 0:=by simpa using e
  exact⟨[],by simp,.snil⟩
 ·obtain rfl:v= .slice (some a) len cap:=by simpa using e
  have hm:len≤m:=by rw[h3];split<;>omega
  rw[hc6]at h4
  have each: ∀i,i<m→ ∃q:Rp×List Value,q.1.Ok∧q.2.length=6∧(∀k,k<6→w.cell? ((a.add (i*6)).add k)=q.2[k]?)∧ ∀(j:Nat) (x:D) (u:Value),q.1.ds[j]? =some x→q.2[j]? =some u→RepD w Z0 x u:=fun i hi=>by
   obtain⟨cs,c1,c2⟩:=h4 i hi
   obtain⟨_,c3,c4⟩:=World.cells?_some c1
   obtain⟨f,f1,f2⟩:=SR c3 c2
   exact⟨(f,cs),f1,c3,c4,f2⟩
  haveI:Inhabited (Rp×List Value):=⟨(⟨false,[],[],false,[],[]⟩,[])⟩
  obtain⟨q,hq⟩:=Go.Deep.choose_lt each
  have hspot:0<len→a.spot=none:=fun h=>by
   obtain⟨_,q1,q2,_⟩:=hq 0 (by omega)
   have q2:=q2 0 (by omega)
   rw[Ai (by omega)]at q2
   have:=q2
   unfold Addr.add at this;simp only[Nat.zero_mul,if_true]at this;unfold World.cell? at this;split at this
   ·split at this
    ·cases this
    ·rename_i hn
     simpa using hn
   ·cases this
  refine⟨(List.range len).map fun i=>(q i).1,fun f hf=> ?_,?_⟩
  ·obtain⟨i,hi,rfl⟩:=jzk.1 hf
   exact(hq i (by have:=List.mem_range.1 hi;omega)).1
  ·have hx: ∀(j:Nat) (x:Va.D),((((List.range len).map fun i=>(q i).1)).flatMap Rp.ds)[j]? =some x→j/6<len∧(q (j/6)).1.ds[j%6]? =some x:=fun j x hj=>by
    rw[jbt,Bw]at hj
    by_cases h:j/6<len
    ·rw[List.getElem?_range h]at hj
     exact⟨h,by simpa using hj⟩
    ·rw[BG (by simpa using h)]at hj
     cases hj
   show RepD w Z0 (.slice _ _) _
   rw[show((List.range len).map fun i=>(q i).1).length=len by simp]
   have hat: ∀j,j/6<len→w.cell? ⟨a.block,a.off+j,none⟩=some ((q (j/6)).2.getD (j%6) .nilFunc):=fun j hj=>by
    obtain⟨_,q1,q2,_⟩:=hq (j/6) (by omega)
    have q2:=q2 (j%6) (by omega)
    rw[Ar,Ai (by omega)]
    rw[Ai (by omega),Go.Deep.add_add]at q2
    have hs:=hspot (by omega)
    have:a.add (j/6*6+j%6)=⟨a.block,a.off+j,none⟩:=by
     rw[show j/6*6+j%6=j by omega]
     unfold Addr.add;split
     ·rename_i h0
      subst h0;obtain⟨b,o,s⟩:=a;simp only at hs;subst hs;rfl
     ·rfl
    rw[←this]
    exact q2
   refine .slice len _ a cap (fun j=>(q (j/6)).2.getD (j%6) .nilFunc) (fun hne=> ?_) h1 h2 (fun j x hj=>hat j (hx j x hj).1) (fun j x hj h=>h) (fun j x hj=> ?_)
   ·obtain⟨x,hx2⟩:=List.exists_mem_of_ne_nil _ hne
    obtain⟨j,hj⟩:=List.getElem?_of_mem hx2
    have:=(hx j x hj).1
    exact hspot (by omega)
   ·obtain⟨hj1,hj2⟩:=hx j x hj
    obtain⟨_,q1,_,q3⟩:=hq (j/6) (by omega)
    refine q3 _ _ _ hj2 ?_;rw[Ar,Ai (by omega)]
    rfl
end
end Go.Va
namespace Go.Va
open Go.Proofs
def AB(W:Int→Pq)(k:Int)(r:Rat)(l:List Int):Prop:= ∀v∈BD k r (l.map W),v=0
def BW(W:Int→Pq)(k:Int)(l:List Int):Prop:=
 if k=1 then (match l with|[a,b]=> ¬((W a).x=(W b).x∧(W a).y=(W b).y)|_=>True)
 else (match l with|[a,b,c]=>(vec (W a) (W b)).cross (vec (W a) (W c))≠0|_=>True)
theorem ES{W:Int→Pq}{r:Rat}{a b c:Int}:AB W 1 r [a,b,c]↔(vec (W a) (W b)).cross (vec (W a) (W c))=0:=by simp[AB,BD]
theorem van2{W:Int→Pq}{r:Rat}{a b c d:Int}:AB W 2 r [a,b,c,d]↔(vec (W a) (W b)).cross (vec (W c) (W d))=0:=by simp[AB,BD]
theorem IT{W:Int→Pq}{r:Rat}{a b c d:Int}:AB W 3 r [a,b,c,d]↔(vec (W a) (W b)).dot (vec (W c) (W d))=0:=by simp[AB,BD]
theorem IF{W:Int→Pq}{r:Rat}{a b c d:Int}:AB W 4 r [a,b,c,d]↔A5 (W a) (W b) - A5 (W c) (W d)=0:=by simp[AB,BD]
theorem Hv{W:Int→Pq}{r:Rat}{a b c:Int}:AB W 5 r [a,b,c]↔(W b).x+(W c).x - 2*(W a).x=0∧(W b).y+(W c).y - 2*(W a).y=0:=by simp[AB,BD]
theorem JN{W:Int→Pq}{r:Rat}{a b c d:Int}:AB W 6 r [a,b,c,d]↔leanQ (W b) (W a) (W b) (W c) (W d) (W a) (W d) (W c)=0:=by simp[AB,BD]
theorem JE{W:Int→Pq}{r:Rat}{a b c d e f g h:Int}:AB W 7 r [a,b,c,d,e,f,g,h]↔leanQ (W a) (W b) (W c) (W d) (W e) (W f) (W g) (W h)=0:=by simp[AB,BD]
theorem Gl{W:Int→Pq}{r:Rat}{a b:Int}:AB W 8 r [a,b]↔(W a).x - (W b).x=0∧(W a).y - (W b).y=0:=by simp[AB,BD]
theorem Kz{W:Int→Pq}{r:Rat}{a b c d:Int}:AB W 9 r [a,b,c,d]↔A5 (W a) (W b) - r*A5 (W c) (W d)=0:=by simp[AB,BD]
theorem Kt{W:Int→Pq}{a b:Int}:BW W 1 [a,b]↔ ¬((W a).x=(W b).x∧(W a).y=(W b).y):=by simp[BW]
theorem Sr{W:Int→Pq}{a b c:Int}:BW W 2 [a,b,c]↔(vec (W a) (W b)).cross (vec (W a) (W c))≠0:=by simp[BW]
theorem FP{x:Rat}(h:x≠0):0<x*x:=by
 rcases Rat.le_total (a:=0) (b:=x)with h1|h1
 ·exact Rat.mul_pos (by grind) (by grind)
 ·have:=Rat.mul_pos (a:= -x) (b:= -x) (by grind) (by grind)
  grind
theorem Kf(x:Rat):0≤x*x:=by
 by_cases h:x=0
 ·subst h;grind
 ·have:=FP h;grind
theorem P7{u:Pq}(h: ¬(u.x=0∧u.y=0)):u.dot u≠0:=by
 unfold Pq.dot;by_cases hx:u.x=0
 ·have hy:u.y≠0:=fun e=>h ⟨hx,e⟩
  have:=FP hy
  have:=Kf u.x
  grind
 ·have:=FP hx
  have:=Kf u.y
  grind
theorem RQ{a b:Pq}(h: ¬(a.x=b.x∧a.y=b.y)): ¬((vec a b).x=0∧(vec a b).y=0):=by
 unfold vec;simp only;intro ⟨h1,h2⟩;exact h ⟨by grind,by grind⟩
theorem B4{a b:Rat}(h:a*b=0)(ha:a≠0):b=0:=by grind
def A9(u v w z:Pq):Rat:=u.cross v*w.dot z - w.cross z*u.dot v
def CB(u v w z:Pq):Rat:=u.dot v*w.dot z+u.cross v*w.cross z
theorem TY(a b c d e f g h:Pq):leanQ a b c d e f g h=A9 (vec a b) (vec c d) (vec e f) (vec g h):=rfl
theorem VQ{s t u:Pq}(h1:s.cross t=0)(h2:s.cross u=0)(hs:s.dot s≠0):t.cross u=0:=by
 refine B4 (a:=s.dot s) ?_ hs;unfold Pq.cross Pq.dot at*
 grind
theorem V7{s t u:Pq}(h1:s.cross t=0)(h2:s.dot u=0)(hs:s.dot s≠0):t.dot u=0:=by
 refine B4 (a:=s.dot s) ?_ hs;unfold Pq.cross Pq.dot at*
 grind
theorem jao{s t u:Pq}(h1:s.dot t=0)(h2:s.dot u=0)(hs:s.dot s≠0):t.cross u=0:=by
 refine B4 (a:=s.dot s) ?_ hs;unfold Pq.cross Pq.dot at*
 grind
theorem Mw{u s t v w x:Pq}(h1:A9 u s t v=0)(h2:A9 s w x t=0)(hs:s.dot s≠0)(ht:t.dot t≠0):A9 u w x v=0:=by
 refine B4 (a:=s.dot s) (B4 (a:=t.dot t) ?_ ht) hs;have e:t.dot t*(s.dot s*A9 u w x v)=A9 u s t v*CB s w x t+CB u s t v*A9 s w x t:=by
  unfold A9 CB Pq.cross Pq.dot
  grind
 rw[e,h1,h2]
 grind
theorem Ua{s t u v w x:Pq}(h1:A9 s t u v=0)(h2:A9 s t w x=0)(hs:s.dot s≠0)(ht:t.dot t≠0):A9 w u x v=0:=by
 refine B4 (a:=s.dot s) (B4 (a:=t.dot t) ?_ ht) hs;have e:t.dot t*(s.dot s*A9 w u x v)=A9 s t u v*CB s t w x - CB s t u v*A9 s t w x:=by
  unfold A9 CB Pq.cross Pq.dot
  grind
 rw[e,h1,h2]
 grind
theorem W0{s t u v w:Pq}(h1:A9 s u v w=0)(h2:s.cross t=0)(hs:s.dot s≠0):A9 t u v w=0:=by
 refine B4 (a:=s.dot s) ?_ hs;have e:s.dot s*A9 t u v w=s.dot t*A9 s u v w - s.cross t*CB s u v w:=by
  unfold A9 CB Pq.cross Pq.dot
  grind
 rw[e,h1,h2]
 grind
theorem jaI{s t u:Pq}(h:A9 s s t u=0)(hs:s.dot s≠0):t.cross u=0:=by
 refine B4 (a:=s.dot s) ?_ hs;unfold A9 Pq.cross Pq.dot at*
 grind
theorem S0{s t u v:Pq}(h:A9 s t u v=0)(h2:s.dot t=0)(hs:s.dot s≠0)(ht:t.dot t≠0):u.dot v=0:=by
 refine B4 (a:=s.dot s) (B4 (a:=t.dot t) ?_ ht) hs;have e:t.dot t*(s.dot s*u.dot v)=s.cross t*A9 s t u v+s.dot t*CB s t u v:=by
  unfold A9 CB Pq.cross Pq.dot
  grind
 rw[e,h,h2]
 grind
theorem JI(a b c d:Pq):leanQ c a c b d a d b= - leanQ b a b c d a d c:=by
 unfold leanQ vec Pq.cross Pq.dot
 grind
def GL(W:Int→Pq)(r:Rul)(b:Bnd):Prop:=
 (∀p∈r.prem,AB W p.kind 0 (Bi b p.letters))→(∀p∈r.guards,BW W p.kind (Bi b p.letters))→ ∀p∈r.concl,AB W p.kind (if p.kind=9 then (p.n:Rat) else 0) (Bi b p.letters)
theorem Cd{a b:Pq}(h:a.x=b.x→ ¬a.y=b.y):(vec a b).dot (vec a b)≠0:=P7 (RQ fun⟨e,f⟩=>h e f)
theorem CJ{a b m:Rat}(h:a+b - 2*m=0):a=2*m - b:=by grind
theorem Yr(W:Int→Pq)(b:Bnd)(k:Nat):GL W (AJ k) b:=by
 unfold GL AJ;split<;>simp[DC,Do,CT,Iu,Dk,Fs,C2,LS,I6,DA,G3,Rul.zero,Bi,C4,ES,van2,IT,IF,Hv,JN,JE,Gl,Kz,Kt,Sr]
 all_goals (try generalize W (b.P 0 - 1)=A at*)
 all_goals (try generalize W (b.P 1 - 1)=B at*)
 all_goals (try generalize W (b.P 2 - 1)=C at*)
 all_goals (try generalize W (b.P 3 - 1)=D at*)
 all_goals (try generalize W (b.P 4 - 1)=E at*)
 all_goals (try generalize W (b.P 12 - 1)=M at*)
 all_goals (try generalize W (b.P 13 - 1)=N at*)
 all_goals (try generalize W (b.P 14 - 1)=O at*)
 all_goals (try generalize W (b.P 15 - 1)=P at*)
 all_goals (try generalize W (b.P 16 - 1)=Q at*)
 ·exact fun h1 h2 h3=>VQ h1 h2 (Cd h3)
 ·exact fun h1 h2 h3=>V7 h1 h2 (Cd h3)
 ·exact fun h1 h2 h3=>jao h1 h2 (Cd h3)
 ·intro h1 h2;have h1:=CJ h1;have h2:=CJ h2;unfold A5 vec Pq.cross Pq.dot;simp only[h1,h2];refine⟨?_,?_,?_⟩<;>grind
 ·intro h1 h2 h3 h4;unfold A5 vec Pq.cross Pq.dot;refine⟨?_,?_⟩<;>grind
 ·intro h1 h2 h3 h4;unfold A5 vec Pq.cross Pq.dot;refine⟨?_,?_⟩<;>grind
 ·intro h1 h2 h3 h4;refine⟨?_,?_⟩<;>grind
 ·intro h1 h2;unfold A5 vec Pq.dot at*
  grind
 ·intro h1 h2 h3;unfold A5 leanQ vec Pq.cross Pq.dot at*
  grind
 ·intro h1 h2 h3;unfold leanQ vec Pq.cross Pq.dot at*
  grind
 ·intro h1;rw[JI,h1];rfl
 ·intro h1;rw[JI]at h1
  grind
 ·exact fun h1 h2 h3 h4=>Mw h1 h2 (Cd h3) (Cd h4)
 ·exact fun h1 h2 h3 h4=>Ua h1 h2 (Cd h3) (Cd h4)
 ·exact fun h1 h2 h3=>W0 h1 h2 (Cd h3)
 ·intro h1 h2;unfold leanQ vec Pq.cross Pq.dot at*
  grind
 ·exact fun h1 h2=>jaI h1 (Cd h2)
 ·exact fun h1 h2 h3 h4=>S0 h1 h2 (Cd h3) (Cd h4)
 ·intro h1;unfold A5 leanQ vec Pq.cross Pq.dot at*
  grind
 ·intro h1 h2;unfold A5 leanQ vec Pq.cross Pq.dot at*
  grind
 ·intro h1 h2 h3;have h1:=CJ h1;have h2:=CJ h2;unfold A5 vec Pq.dot at*;simp only[h1,h2]at*
  grind
 ·intro h1 h2 h3;have h1:=CJ h1;have h2:=CJ h2;unfold A5 vec Pq.dot at*;simp only[h1,h2]at*
  grind
 ·intro h1 h2 h3;have h1:=CJ h1;have h2:=CJ h2;unfold A5 vec Pq.dot at*;simp only[h1,h2]at*
  grind
 ·intro h1 h2 h3 h4 h5;have h1:=CJ h1;have h2:=CJ h2;unfold vec Pq.cross at*;simp only[h1,h2]at*;refine⟨?_,?_⟩<;>grind
 ·intro h1 h2 h3;unfold A5 vec Pq.cross Pq.dot at*;refine⟨?_,?_⟩<;>grind
 ·intro h1 h2 h3;have h3:=Cd h3;unfold A5 vec Pq.cross Pq.dot at*;refine⟨?_,?_⟩<;>grind
end Go.Va
