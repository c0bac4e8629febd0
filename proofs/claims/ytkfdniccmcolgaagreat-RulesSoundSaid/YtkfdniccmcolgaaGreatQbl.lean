/- a part of the proof -/
import Derived.Test.YtkfdniccmcolgaaGreatQbk
import Derived.Test.YtkfdniccmcolgaaGreatQzL
set_option linter.all false
set_option maxHeartbeats 4000000
set_option maxRecDepth 10000
namespace Go.Va
open Int (natCast_add natCast_mul natCast_emod natCast_ediv natCast_pow)
open Go.Proofs
def CX(nl:List Fct)(l:List Fnd):List (Nat×Blk):=
 if l=[] then [(9,.box [.nl]),(6,.box [.d (AE nl)])]
 else [(9,.box [.sl 80 0 l.length]),(80,.row 6 (l.flatMap Fnd.ds) true),(6,.box [.d (AE nl)])]
theorem Gr(nl:List Fct):CX nl []=[(9,.box [.nl]),(6,.box [.d (AE nl)])]:=rfl
theorem GC(nl:List Fct){l:List Fnd}(h:l≠[]):CX nl l=[(9,.box [.sl 80 0 l.length]),(80,.row 6 (l.flatMap Fnd.ds) true),(6,.box [.d (AE nl)])]:=if_neg h
theorem Fz(nl:List Fct)(l:List Fnd)(e:Exit)(he:e= .ret∨e= .normal)(st:St)(rs:List (Nat×Nat))(h1:An (rns rs st).t (Cn 2 [.ptr 6 0,.ptr 9 0]))(h2:An (rns rs st).h (CX nl l)):N9 2 [.ptr 6 0,.ptr 9 0] (CX nl l) e st:=by
 refine⟨he,rs,h1,h2,?_,?_⟩
 ·intro c hc i hi;unfold CX;simp only[jzn,AM,or_false]at hc;rcases hc with rfl|rfl<;>(simp[C.id?]at hi;subst hi;split<;>simp)
 ·intro i b hb;unfold CX at hb ⊢;split at hb
  ·rename_i h0
   rw[if_pos h0]
   simp only[lk]at hb;split at hb
   ·cases hb;intro c hc j hj;simp at hc;subst hc;simp[C.id?]at hj
   ·split at hb
    ·cases hb;intro c hc j hj;simp at hc;subst hc;simp[C.id?]at hj
    ·cases hb
  ·rename_i h0
   rw[if_neg h0]
   simp only[lk]at hb;split at hb
   ·cases hb;intro c hc j hj;simp at hc;subst hc;simp[C.id?]at hj;subst hj;simp
   ·split at hb
    ·cases hb;trivial
    ·split at hb
     ·cases hb;intro c hc j hj;simp at hc;subst hc;simp[C.id?]at hj
     ·cases hb
@[simp]theorem IV(l:List Fnd):(l.flatMap Fnd.ds).take (l.length*6)=l.flatMap Fnd.ds:=AI (by rw[LN];omega)
@[simp]theorem jig(l:List Fnd):D.slice l.length (l.flatMap Fnd.ds)=BQ l:=rfl
theorem G5{nl:List Fct}{l:List Fnd}{F:Fct}{g:List Grd}(h:F.kind=0∨Dd F=true∨CH F nl=true):Ef nl l F g=l:=if_pos h
theorem Ox{nl:List Fct}{l:List Fnd}{F:Fct}{g:List Grd}(h: ¬(F.kind=0∨Dd F=true∨CH F nl=true))(hi:CE F (l.map Fnd.fact) 0= -1):Ef nl l F g=l++[⟨F,g⟩]:=by
 unfold Ef;rw[if_neg h];simp only[hi];rw[if_pos (by omega)]
theorem PQ{nl:List Fct}{l:List Fnd}{F:Fct}{g:List Grd}{k:Nat}(h: ¬(F.kind=0∨Dd F=true∨CH F nl=true))(hk:k<l.length)(hi:CE F (l.map Fnd.fact) 0=k):Ef nl l F g=if BF g l[k].grds then l.set k ⟨l[k].fact,g⟩ else l:=by
 unfold Ef;rw[if_neg h];simp only[hi];rw[if_neg (by omega),Int.toNat_natCast,Ai hk]
theorem Mx(l:List Fnd)(k t:Nat)(hk:k<l.length)(ht:t<6):(l.flatMap Fnd.ds)[k*6+t]? =l[k].ds[t]? :=by
 have h:((l.flatMap Fnd.ds).drop (k*6)).take 6=l[k].ds:=G1 Fnd.ds_len l k hk
 rw[←h,List.getElem?_take,if_pos ht,List.getElem?_drop]
theorem SK(l:List Fnd)(k:Nat)(g:List Grd)(hk:k<l.length):splice (k*6+5) [grdsD g] (l.flatMap Fnd.ds)=(l.set k ⟨l[k].fact,g⟩).flatMap Fnd.ds:=by
 have hlen:=LN l;rw[←LU Fnd.ds_len l k ⟨l[k].fact,g⟩ hk]
 apply List.ext_getElem?
 intro j;rw[CL _ _ _ (by simp;omega),CL _ _ _ (by rw[Fnd.ds_len];omega)]
 by_cases h1:k*6≤j∧j<k*6+6
 ·obtain⟨t,rfl⟩: ∃t,j=k*6+t:=⟨j - k*6,by omega⟩
  have hg:=Mx l k t hk (by omega)
  rw[if_pos (show k*6≤k*6+t∧k*6+t<k*6+(Fnd.ds ⟨l[k].fact,g⟩).length by rw[Fnd.ds_len];omega)]
  by_cases h5:t=5
  ·subst h5;rw[if_pos (by simp)]
   simp[Fnd.ds]
  ·rw[if_neg (by simp;omega),hg,Nat.add_sub_cancel_left]
   match t,h1,h5 with
   |0,_,_=>rfl
   |1,_,_=>rfl
   |2,_,_=>rfl
   |3,_,_=>rfl
   |4,_,_=>rfl
   |5,_,h=>exact absurd rfl h
   |t+6,h,_=>omega
 ·rw[if_neg (by simp;omega),if_neg (by rw[Fnd.ds_len];omega)]
theorem jeA(nl:List Fct)(l:List Fnd)(f:Fct)(g:List Grd)(hm:f.Mild)(hn: ∀x∈nl,x.Rt)(hnl:nl.length≤1000)(hl:FndOk l)(hll:l.length≤100000000000)(hg:g.length≤10∧ ∀x∈g,x.Short):
  H8 Tryz.prog 48 [.agg f.ds,.c (grdsD g)] [.ptr 6 0,.ptr 9 0] (CX nl l) (CX nl (G0 nl l f g)):=by
 have k1:=LL f hm;have hrt:=Ca (f:=f) hm;unfold G0;simp only[Fct.ds]at k1;generalize hF:normF f=F at*;clear hF;generalize hH:CX nl (Ef nl l F g)=H;by_cases h0:l=[]
 ·subst h0;rw[Gr];refine UB [(1000006,6),(1000009,9)] (T:=tb) Ad mixed Tryz.func48 rfl (by decide) (Ac rfl) (Ac rfl) rfl rfl ?_;unfold St.initX
  simp -implicitDefEqProofs[jJ,-natCast_add,-natCast_mul,-List.map_set,-List.reduceReplicate,Cn];refine Aa k1 ?_;simp -implicitDefEqProofs[jJ,-natCast_add,-natCast_mul,-List.map_set,-List.reduceReplicate,Fct.res];refine⟨fun hk=> ?_,fun hk=> ?_⟩
  ·have hrt:=hrt hk;have k2:=Rm F hrt.mild;have k3:=TR F nl hrt hn (by omega)
   have k4:=Ul F [] hrt (by simp) (by simp)
   simp only[Fct.ds]at k2 k3 k4;refine Aa k2 ?_;cases ht:Dd F with
   |true=>
    simp -implicitDefEqProofs[jJ,-natCast_add,-natCast_mul,-List.map_set,-List.reduceReplicate];rw[G5 (.inr (.inl ht))]at hH;subst hH;refine Fz nl [] _ (by simp) _ [(6,1000006),(9,1000009)] ?_ ?_
    ·simp -implicitDefEqProofs[jJ,-natCast_add,-natCast_mul,-List.map_set,-List.reduceReplicate,An,lk,Cn]
    ·simp -implicitDefEqProofs[jJ,-natCast_add,-natCast_mul,-List.map_set,-List.reduceReplicate,An,lk,Gr]
   |false=>
    simp -implicitDefEqProofs[jJ,-natCast_add,-natCast_mul,-List.map_set,-List.reduceReplicate];refine Aa k3 ?_;cases ha:CH F nl with
    |true=>
     simp -implicitDefEqProofs[jJ,-natCast_add,-natCast_mul,-List.map_set,-List.reduceReplicate];rw[G5 (.inr (.inr ha))]at hH;subst hH;refine Fz nl [] _ (by simp) _ [(6,1000006),(9,1000009)] ?_ ?_
     ·simp -implicitDefEqProofs[jJ,-natCast_add,-natCast_mul,-List.map_set,-List.reduceReplicate,An,lk,Cn]
     ·simp -implicitDefEqProofs[jJ,-natCast_add,-natCast_mul,-List.map_set,-List.reduceReplicate,An,lk,Gr]
    |false=>
     simp -implicitDefEqProofs[jJ,-natCast_add,-natCast_mul,-List.map_set,-List.reduceReplicate];simp only[BQ,List.length_nil,List.flatMap_nil]at k4;refine Aa k4 ?_;simp -implicitDefEqProofs[jJ,-natCast_add,-natCast_mul,-List.map_set,-List.reduceReplicate,CE];rw[Ox (by simp[hk,ht,ha]) rfl]at hH
     subst hH;refine Fz nl _ _ (by simp) _ [(6,1000006),(9,1000009),(80,33)] ?_ ?_
     ·simp -implicitDefEqProofs[jJ,-natCast_add,-natCast_mul,-List.map_set,-List.reduceReplicate,An,lk,Cn]
     ·simp -implicitDefEqProofs[jJ,-natCast_add,-natCast_mul,-List.map_set,-List.reduceReplicate,An,lk,CX,Fnd.ds]
  ·rw[G5 (.inl hk)]at hH
   subst hH;refine Fz nl [] _ (by simp) _ [(6,1000006),(9,1000009)] ?_ ?_
   ·simp -implicitDefEqProofs[jJ,-natCast_add,-natCast_mul,-List.map_set,-List.reduceReplicate,An,lk,Cn]
   ·simp -implicitDefEqProofs[jJ,-natCast_add,-natCast_mul,-List.map_set,-List.reduceReplicate,An,lk,Gr]
 ·rw[GC nl h0]
  refine UB [(1000006,6),(1000009,9),(1000080,80)] (T:=tb) Ad mixed Tryz.func48 rfl (by decide) (Ac rfl) (Ac rfl) rfl rfl ?_;unfold St.initX
  simp -implicitDefEqProofs[jJ,-natCast_add,-natCast_mul,-List.map_set,-List.reduceReplicate,Cn];refine Aa k1 ?_;simp -implicitDefEqProofs[jJ,-natCast_add,-natCast_mul,-List.map_set,-List.reduceReplicate,Fct.res];refine⟨fun hk=> ?_,fun hk=> ?_⟩
  ·have hrt:=hrt hk;have k2:=Rm F hrt.mild;have k3:=TR F nl hrt hn (by omega)
   have k4:=Ul F l hrt hl.rt (by omega)
   simp only[Fct.ds]at k2 k3 k4;refine Aa k2 ?_;cases ht:Dd F with
   |true=>
    simp -implicitDefEqProofs[jJ,-natCast_add,-natCast_mul,-List.map_set,-List.reduceReplicate];rw[G5 (.inr (.inl ht))]at hH;subst hH;refine Fz nl l _ (by simp) _ [(6,1000006),(9,1000009),(80,1000080)] ?_ ?_
    ·simp -implicitDefEqProofs[jJ,-natCast_add,-natCast_mul,-List.map_set,-List.reduceReplicate,An,lk,Cn]
    ·simp -implicitDefEqProofs[jJ,-natCast_add,-natCast_mul,-List.map_set,-List.reduceReplicate,An,lk,GC nl h0]
   |false=>
    simp -implicitDefEqProofs[jJ,-natCast_add,-natCast_mul,-List.map_set,-List.reduceReplicate];refine Aa k3 ?_;cases ha:CH F nl with
    |true=>
     simp -implicitDefEqProofs[jJ,-natCast_add,-natCast_mul,-List.map_set,-List.reduceReplicate];rw[G5 (.inr (.inr ha))]at hH;subst hH;refine Fz nl l _ (by simp) _ [(6,1000006),(9,1000009),(80,1000080)] ?_ ?_
     ·simp -implicitDefEqProofs[jJ,-natCast_add,-natCast_mul,-List.map_set,-List.reduceReplicate,An,lk,Cn]
     ·simp -implicitDefEqProofs[jJ,-natCast_add,-natCast_mul,-List.map_set,-List.reduceReplicate,An,lk,GC nl h0]
    |false=>
     simp -implicitDefEqProofs[jJ,-natCast_add,-natCast_mul,-List.map_set,-List.reduceReplicate];refine Aa k4 ?_;rcases K1 F (l.map Fnd.fact) 0 with⟨hi,_⟩|⟨k,hkl,hi,_⟩
     ·rw[Ox (by simp[hk,ht,ha]) hi]at hH
      subst hH;simp -implicitDefEqProofs[jJ,-natCast_add,-natCast_mul,-List.map_set,-List.reduceReplicate,hi];refine⟨⟨by omega,by omega⟩,?_⟩
      refine Fz nl _ _ (by simp) _ [(6,1000006),(9,1000009),(80,33)] ?_ ?_
      ·simp -implicitDefEqProofs[jJ,-natCast_add,-natCast_mul,-List.map_set,-List.reduceReplicate,An,lk,Cn]
      ·simp -implicitDefEqProofs[jJ,-natCast_add,-natCast_mul,-List.map_set,-List.reduceReplicate,An,lk,CX,Fnd.ds]
     ·rw[List.length_map]at hkl
      rw[Nat.zero_add]at hi
      rw[PQ (by simp[hk,ht,ha]) hkl hi]at hH
      have g5:=Mx l k 5 hkl (by omega)
      simp only[Fnd.ds,List.getElem?_cons_succ,List.getElem?_cons_zero]at g5;have hsh:=hl.sh l[k] (Ak hkl);have k5:=jbE g l[k].grds hg.2 hsh.2 (by omega) (by omega)
      simp -implicitDefEqProofs[jJ,-natCast_add,-natCast_mul,-List.map_set,-List.reduceReplicate,hi,hkl,g5];refine Aa k5 ?_;cases he:BF g l[k].grds with
      |false=>
       rw[he,if_neg (by simp)]at hH
       subst hH;simp -implicitDefEqProofs[jJ,-natCast_add,-natCast_mul,-List.map_set,-List.reduceReplicate];refine Fz nl _ _ (by simp) _ [(6,1000006),(9,1000009),(80,1000080)] ?_ ?_
       ·simp -implicitDefEqProofs[jJ,-natCast_add,-natCast_mul,-List.map_set,-List.reduceReplicate,An,lk,Cn]
       ·simp -implicitDefEqProofs[jJ,-natCast_add,-natCast_mul,-List.map_set,-List.reduceReplicate,An,lk,GC nl h0]
      |true=>
       rw[he,if_pos rfl]at hH
       subst hH;simp -implicitDefEqProofs[jJ,-natCast_add,-natCast_mul,-List.map_set,-List.reduceReplicate,hkl];have hset:l.set k ⟨l[k].fact,g⟩≠[]:=by
        intro e;have:=congrArg List.length e;simp at this;exact h0 this
       refine⟨by omega,?_⟩
       refine Fz nl _ _ (by simp) _ [(6,1000006),(9,1000009),(80,1000080)] ?_ ?_
       ·simp -implicitDefEqProofs[jJ,-natCast_add,-natCast_mul,-List.map_set,-List.reduceReplicate,An,lk,Cn]
       ·rw[GC nl hset]
        simp -implicitDefEqProofs[jJ,-natCast_add,-natCast_mul,-List.map_set,-List.reduceReplicate,An,lk,SK l k g hkl]
  ·rw[G5 (.inl hk)]at hH
   subst hH;refine Fz nl l _ (by simp) _ [(6,1000006),(9,1000009),(80,1000080)] ?_ ?_
   ·simp -implicitDefEqProofs[jJ,-natCast_add,-natCast_mul,-List.map_set,-List.reduceReplicate,An,lk,Cn]
   ·simp -implicitDefEqProofs[jJ,-natCast_add,-natCast_mul,-List.map_set,-List.reduceReplicate,An,lk,GC nl h0]
end Go.Va
namespace Go.Va
open Go.Proofs
abbrev AR:=Fct×List Grd
def DK(x:AR):List A:=[.agg x.1.ds,.c (grdsD x.2)]
def Cj(r:Rul)(b:Bnd):List AR:=if Gv b r.guards then r.concl.map fun p=>(D9 b p,guardsL b r.guards) else []
def DY(E:Bnd→List AR)(M:Nat→Bnd→List Bnd):Nat→Nat→Bnd→List AR
 |0,_,b=>E b
 |k+1,i,b=>(M i b).flatMap (DY E M k (i+1))
def Co(r:Rul)(nl:List Fct)(i:Nat)(b:Bnd):List Bnd:=match r.prem[i]?,nl[i]? with|some p,some f=>C5 p f b|_,_=>[]
def saysP(r:Rul)(nl:List Fct):List AR:=DY (Cj r) (Co r nl) nl.length 0 Bnd.zero
def runF(nl:List Fct)(l:List Fnd)(P:List AR):List Fnd:=P.foldl (fun l x=>G0 nl l x.1 x.2) l
def DH(a b:Fnd):Int:=Aw a.fact b.fact
def Gn(r:Rul)(nl:List Fct):List Fnd:=CU DH (runF nl [] (saysP r nl))
theorem jgw(r:Rul)(b:Bnd):EZ r b=(Cj r b).map DK:=by
 unfold EZ Cj Fv;split
 ·rw[List.drop_zero,List.map_map];rfl
 ·rfl
theorem Wd(r:Rul)(M:Nat→Bnd→List Bnd): ∀(k i:Nat) (b:Bnd),found1 (EZ r) M k i b=(DY (Cj r) M k i b).map DK
 |0,i,b=>jgw r b
 |k+1,i,b=>by
  show(M i b).flatMap (found1 (EZ r) M k (i+1))=((M i b).flatMap (DY (Cj r) M k (i+1))).map DK
  rw[List.map_flatMap]
  exact congrArg (fun g=>(M i b).flatMap g) (funext fun c=>Wd r M k (i+1) c)
theorem E3{α β:Type}{f:α→List β}{m:Nat}: ∀{l:List α},(∀a∈l,(f a).length≤m)→(l.flatMap f).length≤l.length*m
 |[],_=>by simp
 |a::l,h=>by
  rw[List.flatMap_cons,List.length_append,List.length_cons,Nat.succ_mul]
  have h1:=h a (by simp)
  have h2:=E3 (l:=l) fun b hb=>h b (by simp[hb])
  omega
def H0:Nat→Nat
 |0=>1
 |n+1=>(n+1)*H0 n
theorem Vm: ∀n,1≤H0 n
 |0=>AA _
 |n+1=>Nat.mul_pos (Nat.succ_pos n) (Vm n)
theorem Rq: ∀(l:List UInt8) (pts:List Int) (b:Bnd),(mp l pts b).length≤H0 pts.length
 |[],pts,b=>by rw[mp];exact Vm _
 |c::r,pts,b=>by
  rw[mp]
  cases hn:pts.length with
  |zero=>simp[H0]
  |succ n=>
   have:=E3 (l:=List.range (n+1)) (m:=H0 n) (f:=fun i=>match b.point (c.toNat - 65) (pts.getD i 0)with|none=>[]|some b'=>mp r (pts.eraseIdx i) b') fun i hi=>by
    rw[List.mem_range]at hi
    split
    ·exact Nat.zero_le _
    ·rename_i b' _
     have h:=Rq r (pts.eraseIdx i) b';rw[List.length_eraseIdx,if_pos (by omega),hn,Nat.add_sub_cancel]at h
     exact h
   rw[List.length_range]at this
   exact this
theorem OS: ∀(n:Nat) (ls:List UInt8) (l:List (Int×Int)) (b:Bnd),ls.length≤n→(ms ls l b).length≤2^n
 |n,[],l,b,_=>by cases l<;>(rw[ms];exact Nat.one_le_two_pow)
 |n,x::r,[],b,_=>by simp[ms]
 |0,x::r,s::l,b,hn=>by simp at hn
 |n+1,x::r,s::l,b,hn=>by
  simp only[List.length_cons,Nat.add_le_add_iff_right]at hn;by_cases h97:97≤x.toNat
  ·rw[J4 h97]
   split
   ·exact Nat.zero_le _
   ·rename_i b' _
    have:=OS n r l b' hn
    rw[Nat.pow_succ];omega
  ·cases r with
   |nil=>simp only[ms,if_neg h97];exact Nat.zero_le _
   |cons d r=>
    have aux: ∀p q:Int,(DU x d r l b p q).length≤2^n:=by
     intro p q;unfold DU;split
     ·exact Nat.zero_le _
     ·split
      ·exact Nat.zero_le _
      ·rename_i b2 _
       exact OS n r l b2 (by simp at hn;omega)
    have h1:=aux s.1 s.2;have h2:=aux s.2 s.1;rw[LP h97,List.length_append,Nat.pow_succ];split
    ·simp;omega
    ·omega
theorem jhf(k:Int)(f:Fct):(BL k f).length≤8:=by
 unfold BL;split
 ·simp
 ·split
  ·simp
  ·split<;>simp
theorem Wl(x y z:Nat)(b:Bnd)(m p q:Int):(Dx x y z b m p q).length≤1:=by
 unfold Dx;split
 ·simp
 ·split
  ·simp
  ·split<;>simp
theorem jaq(p:Pat)(f:Fct)(hf:f.Rt)(hp:p.letters.length≤8)(b:Bnd):(C5 p f b).length≤2048:=by
 obtain⟨h1,h2,h3,h4⟩:=hf.parts
 unfold C5;split
 ·rename_i hk
  split
  ·rename_i he
   have:=Rq p.letters f.args b
   have e:f.args.length≤4:=by
    rw[h2,he]
    rcases hk with h|h|h<;>rw[h]<;>decide
   have:H0 f.args.length≤24:=by
    generalize f.args.length=n at e
    match n,e with
    |0,_=>decide
    |1,_=>decide
    |2,_=>decide
    |3,_=>decide
    |4,_=>decide
   omega
  ·simp
 ·split
  ·split
   ·rw[List.length_append]
    have h1:=Wl ((p.letters.getD 0 0).toNat - 65) ((p.letters.getD 1 0).toNat - 65) ((p.letters.getD 2 0).toNat - 65) b (f.args.getD 0 0) (f.args.getD 1 0) (f.args.getD 2 0);have h2:=Wl ((p.letters.getD 0 0).toNat - 65) ((p.letters.getD 1 0).toNat - 65) ((p.letters.getD 2 0).toNat - 65) b (f.args.getD 0 0) (f.args.getD 2 0) (f.args.getD 1 0);omega
   ·simp
  ·have h1:=E3 (l:=BL p.kind f) (m:=256) (f:=fun l=>ms p.letters l b) fun l _=>OS 8 p.letters l b hp
   have h2:=jhf p.kind f;have:(BL p.kind f).length*256≤8*256:=Bl _ h2;omega
structure Rul.Good (r:Rul):Prop where
 fit: ∀p∈r.prem,p.Fit∧p.letters.length≤8
 hg: ∀p∈r.guards,p.Ok∧p.letters.length≤8
 hc: ∀p∈r.concl,p.Ok∧0≤p.n∧p.n≤1000
 lp:r.prem.length≤3
 lc:r.concl.length≤10
 lg:r.guards.length≤10
theorem Zs(r:Rul)(hr:r.Good)(nl:List Fct)(hn: ∀f∈nl,f.Rt)(i:Nat)(b:Bnd):(Co r nl i b).length≤2048:=by
 unfold Co;split
 ·rename_i p f h1 h2
  exact jaq p f (hn f (Bv h2)) (hr.fit p (Bv h1)).2 b
 ·simp
theorem WH(r:Rul)(nl:List Fct)(hn: ∀f∈nl,f.Rt)(i:Nat)(b:Bnd)(hb:b.Ok): ∀c∈Co r nl i b,c.Ok:=by
 intro c hc;unfold Co at hc;split at hc
 ·rename_i p f h1 h2
  exact jcZ p f (hn f (Bv h2)) b hb c hc
 ·cases hc
theorem jfm(r:Rul)(hr:r.Good)(b:Bnd):(Cj r b).length≤10:=by
 unfold Cj;split
 ·rw[List.length_map];exact hr.lc
 ·simp
theorem RL(r:Rul)(hr:r.Good)(nl:List Fct)(hn: ∀f∈nl,f.Rt): ∀(k i:Nat) (b:Bnd),(DY (Cj r) (Co r nl) k i b).length≤2048^k*10
 |0,i,b=>by simpa [DY]using jfm r hr b
 |k+1,i,b=>by
  have:=E3 (l:=Co r nl i b) (m:=2048^k*10) (f:=DY (Cj r) (Co r nl) k (i+1)) fun c _=>RL r hr nl hn k (i+1) c
  have h2:=Bl (2048^k*10) (Zs r hr nl hn i b);have e:2048^(k+1)*10=2048*(2048^k*10):=by rw[Nat.pow_succ,Nat.mul_comm (2048^k) 2048,Nat.mul_assoc]
  rw[e]
  exact Nat.le_trans this h2
theorem Bnd.zero_ok:Bnd.zero.Ok:=by
 intro y hy;have:=List.eq_of_mem_replicate hy;omega
theorem Vl(r:Rul)(hr:r.Good)(nl:List Fct)(hn: ∀f∈nl,f.Rt)(hl:nl.length≤3):(saysP r nl).length≤90000000000:=by
 have h:=RL r hr nl hn nl.length 0 Bnd.zero;have h2:2048^nl.length≤2048^3:=Nat.pow_le_pow_right (by omega) hl
 unfold saysP;omega
theorem Q1{E:Bnd→List AR}{M:Nat→Bnd→List Bnd}(hM: ∀i b,b.Ok→ ∀c∈M i b,c.Ok){Q:AR→Prop}(hE: ∀b,b.Ok→ ∀x∈E b,Q x): ∀(k i:Nat) (b:Bnd),b.Ok→ ∀x∈DY E M k i b,Q x
 |0,i,b,hb,x,hx=>hE b hb x hx
 |k+1,i,b,hb,x,hx=>by
  rw[DY,List.mem_flatMap]at hx
  obtain⟨c,hc,hx⟩:=hx
  exact Q1 hM hE k (i+1) c (hM i b hb c hc) x hx
def FY(x:AR):Prop:=x.1.Mild∧x.2.length≤10∧ ∀g∈x.2,g.Short
theorem jat(b:Bnd)(p:Pat)(hp:p.Ok∧0≤p.n∧p.n≤1000):(D9 b p).Mild:=by
 have hl:=JV b p.letters;have h2:=hp.1.2.1;obtain⟨n,hn⟩: ∃n:Nat,p.n=(n:Int):=⟨p.n.toNat,by omega⟩
 have hs: ∀m:Nat,m≤1000→(limbs m).length≤4∧Ok (limbs m):=fun m hm=>by
  refine⟨?_,Ap m⟩
  rw[jd8]
  split
  ·simp
  ·rw[show m/65536=0 by omega,CZ];simp
 have e1:p.n.toNat≤1000:=by omega
 unfold D9;refine⟨?_,?_,?_,?_,?_⟩
 ·show(if p.kind=9 then limbs p.n.toNat else []).length≤4
  split
  ·exact(hs _ e1).1
  ·simp
 ·show(if p.kind=9 then limbs 1 else []).length≤4
  split
  ·exact(hs 1 (by omega)).1
  ·simp
 ·show Ok (if p.kind=9 then limbs p.n.toNat else [])
  split
  ·exact(hs _ e1).2
  ·exact Ok.nil
 ·show Ok (if p.kind=9 then limbs 1 else [])
  split
  ·exact(hs 1 (by omega)).2
  ·exact Ok.nil
 ·show(Bi b p.letters).length≤_
  omega
theorem ZE(b:Bnd)(ps:List Pat)(hp: ∀p∈ps,p.Ok∧p.letters.length≤8)(hl:ps.length≤10):(guardsL b ps).length≤10∧ ∀g∈guardsL b ps,g.Short:=by
 unfold guardsL;split
 ·simp
 ·refine⟨?_,fun g hg=> ?_⟩
  ·have:=Rb (ps.map (GQ b))
   rw[List.length_map]at this
   omega
  ·obtain⟨p,hp2,rfl⟩:=jzk.1 (VM hg)
   have h1:=JV b p.letters;have h2:=(hp p hp2).2
   show(Bc b p).length≤_
   unfold Bc;rw[Hg];omega
theorem Jw(r:Rul)(hr:r.Good)(nl:List Fct)(hn: ∀f∈nl,f.Rt): ∀x∈saysP r nl,FY x:=by
 refine Q1 (fun i b hb=>WH r nl hn i b hb) (fun b hb x hx=> ?_) _ _ _ Bnd.zero_ok
 unfold Cj at hx;split at hx
 ·obtain⟨p,hp,rfl⟩:=jzk.1 hx
  exact⟨jat b p (hr.hc p hp),ZE b r.guards hr.hg hr.lg⟩
 ·cases hx
theorem Ip(nl:List Fct): ∀(P:List AR) (l:List Fnd),(runF nl l P).length≤l.length+P.length
 |[],l=>by simp[runF]
 |x::P,l=>by
  have h1:=Ip nl P (G0 nl l x.1 x.2);have h2:=Yv nl l (normF x.1) x.2
  show(runF nl (G0 nl l x.1 x.2) P).length≤_
  unfold G0 at h1 ⊢;simp only[List.length_cons];omega
theorem G7{nl:List Fct}: ∀(P:List AR) (l:List Fnd),FndOk l→(∀x∈P,FY x)→FndOk (runF nl l P)
 |[],l,h,_=>h
 |x::P,l,h,hP=>by
  have hx:=hP x (by simp)
  exact G7 P _ (VA h (Ca hx.1) hx.2) fun y hy=>hP y (by simp[hy])
def G8(c:UInt8):Bool:=decide (65≤c.toNat)&&decide (c.toNat<91)
def MQ(c:UInt8):Bool:=G8 c||decide (97≤c.toNat)&&decide (c.toNat<123)
def Fq:List UInt8→Nat→Bool
 |[],_=>true
 |_::_,0=>false
 |c::r,n+1=>if 97≤c.toNat then decide (c.toNat<123)&&Fq r n else
  match r with
  |[]=>false
  |d::r=>G8 c&&G8 d&&Fq r n
theorem Hn{c:UInt8}(h:G8 c=true):cap c:=by
 unfold G8 at h
 simpa [cap]using h
theorem X3{c:UInt8}(h:MQ c=true):Cu c:=by
 unfold MQ at h;simp only[Bool.or_eq_true,Ax,decide_eq_true_eq]at h;exact h.imp (fun h=>Hn h) id
theorem KK: ∀(n:Nat) (ls:List UInt8) (l:List (Int×Int)),ls.length≤n→Fq ls l.length=true→CN ls l
 |n,[],l,_,_=>by cases l<;>trivial
 |n,c::r,[],_,h=>by simp[Fq]at h
 |0,c::r,s::l,hn,_=>by simp at hn
 |n+1,c::r,s::l,hn,h=>by
  simp only[List.length_cons,Nat.add_le_add_iff_right]at hn;by_cases h97:97≤c.toNat
  ·rw[No h97]
   cases r with
   |nil=>
    simp only[Fq,List.length_cons,if_pos h97,Ax,decide_eq_true_eq]at h;exact⟨h.1,by cases l<;>trivial⟩
   |cons d r=>
    simp only[Fq,List.length_cons,if_pos h97,Ax,decide_eq_true_eq]at h;exact⟨h.1,KK n _ l hn h.2⟩
  ·cases r with
   |nil=>simp[Fq,h97]at h
   |cons d r=>
    simp only[Fq,List.length_cons,if_neg h97,Ax]at h;simp only[CN,if_neg h97];exact⟨Hn h.1.1,Hn h.1.2,KK n r l (by simp at hn;omega) h.2⟩
def OW(p:Pat):Bool:=decide (p.letters.length≤8)&&
 (decide (p.kind=1∨p.kind=6∨p.kind=8)&&p.letters.all G8||
 (decide (p.kind=5)&&decide (p.letters.length=3)&&p.letters.all G8||
 (decide (p.kind=2∨p.kind=3∨p.kind=4)&&Fq p.letters 2||decide (p.kind=7)&&Fq p.letters 4)))
theorem jaf{p:Pat}(h:OW p=true):p.Fit∧p.letters.length≤8:=by
 unfold OW at h;simp only[Bool.or_eq_true,Ax,decide_eq_true_eq,jzy]at h;obtain⟨h8,h⟩:=h;refine⟨⟨by omega,?_⟩,h8⟩
 rcases h with h|h|h|h
 ·exact .inl ⟨h.1,fun c hc=>Hn (h.2 c hc)⟩
 ·obtain⟨c1,c2,c3,e⟩:=Da h.1.2
  exact .inr (.inl ⟨h.1.1,c1,c2,c3,e,Hn (h.2 c1 (by simp[e])),Hn (h.2 c2 (by simp[e])),Hn (h.2 c3 (by simp[e]))⟩)
 ·exact .inr (.inr (.inl ⟨h.1,fun u v=>KK _ _ [u,v] (AA _) h.2⟩))
 ·exact .inr (.inr (.inr ⟨h.1,fun u v w z=>KK _ _ [u,v,w,z] (AA _) h.2⟩))
def Lf(p:Pat):Bool:=decide (p.letters≠[])&&decide (p.letters.length≤8)&&p.letters.all MQ&&decide (0≤p.n)&&decide (p.n≤1000)
theorem Kb{p:Pat}(h:Lf p=true):p.Ok∧p.letters.length≤8∧0≤p.n∧p.n≤1000:=by
 unfold Lf at h;simp only[Ax,decide_eq_true_eq,jzy]at h;obtain⟨⟨⟨⟨h1,h2⟩,h3⟩,h4⟩,h5⟩:=h;exact⟨⟨h1,by omega,fun c hc=>X3 (h3 c hc)⟩,h2,h4,h5⟩
def MN(r:Rul):Bool:=r.prem.all OW&&r.guards.all Lf&&r.concl.all Lf&&decide (r.prem.length≤3)&&decide (r.concl.length≤10)&&decide (r.guards.length≤10)
theorem QV{r:Rul}(h:MN r=true):r.Good:=by
 unfold MN at h;simp only[Ax,decide_eq_true_eq,jzy]at h;obtain⟨⟨⟨⟨⟨h1,h2⟩,h3⟩,h4⟩,h5⟩,h6⟩:=h;exact⟨fun p hp=>jaf (h1 p hp),fun p hp=>⟨(Kb (h2 p hp)).1,(Kb (h2 p hp)).2.1⟩,fun p hp=>⟨(Kb (h3 p hp)).1,(Kb (h3 p hp)).2.2⟩,h4,h5,h6⟩
theorem Zk: ∀n:Fin 29,MN (AJ n)=true:=by decide+kernel
theorem HL(n:Nat):(AJ n).Good:=by
 by_cases h:n<29
 ·exact QV (Zk ⟨n,h⟩)
 ·rw[IK n (by omega)]
  exact QV (by decide)
theorem Ih(n:Int):(rulT n).Good:=by
 obtain⟨h1,h2,h3,h4,h5,h6⟩:=HL n.toNat
 exact⟨h1,h2,h3,h4,h5,h6⟩
end Go.Va
