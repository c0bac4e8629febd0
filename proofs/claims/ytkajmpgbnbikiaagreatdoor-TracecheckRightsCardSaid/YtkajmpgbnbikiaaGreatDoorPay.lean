/- a part of the proof -/
import Derived.Test.YtkajmpgbnbikiaaGreatDoorPax
import Derived.Test.YtkajmpgbnbikiaaGreatDoorPzL
set_option linter.all false
set_option maxHeartbeats 4000000
set_option maxRecDepth 10000
namespace Go.Va
open Int (natCast_add natCast_mul natCast_emod natCast_ediv natCast_pow)
open Go.Proofs
def B7(nl:List Fct)(l:List Fnd):List (Nat×Blk):=
 if l=[] then [(9,.box [.nl]),(6,.box [.d (BJ nl)])]
 else [(9,.box [.sl 80 0 l.length]),(80,.row 6 (l.flatMap Fnd.ds) true),(6,.box [.d (BJ nl)])]
theorem FV(nl:List Fct):B7 nl []=[(9,.box [.nl]),(6,.box [.d (BJ nl)])]:=rfl
theorem Fz(nl:List Fct){l:List Fnd}(h:l≠[]):B7 nl l=[(9,.box [.sl 80 0 l.length]),(80,.row 6 (l.flatMap Fnd.ds) true),(6,.box [.d (BJ nl)])]:=if_neg h
theorem DP(nl:List Fct)(l:List Fnd)(e:Exit)(he:e= .ret∨e= .normal)(st:St)(rs:List (Nat×Nat))(h1:As (rns rs st).t (Bu 2 [.ptr 6 0,.ptr 9 0]))(h2:As (rns rs st).h (B7 nl l)):Js 2 [.ptr 6 0,.ptr 9 0] (B7 nl l) e st:=by
 refine⟨he,rs,h1,h2,?_,?_⟩
 ·intro c hc i hi;unfold B7;simp only[jzn,CT,or_false]at hc;rcases hc with rfl|rfl<;>(simp[C.id?]at hi;subst hi;split<;>simp)
 ·intro i b hb;unfold B7 at hb ⊢;split at hb
  ·rename_i h0
   rw[if_pos h0]
   simp only[lk]at hb;split at hb
   ·cases hb;intro c hc j hj;simp at hc;subst hc;simp[C.id?]at hj
   ·split at hb
    ·cases hb;intro c hc j hj;simp at hc;subst hc;simp[C.id?]at hj
    ·cases hb
  ·rename_i h0
   rw[if_neg h0]
   simp only[lk]at hb;split at hb
   ·cases hb;intro c hc j hj;simp at hc;subst hc;simp[C.id?]at hj;subst hj;simp
   ·split at hb
    ·cases hb;trivial
    ·split at hb
     ·cases hb;intro c hc j hj;simp at hc;subst hc;simp[C.id?]at hj
     ·cases hb
@[simp]theorem jlE(l:List Fnd):(l.flatMap Fnd.ds).take (l.length*6)=l.flatMap Fnd.ds:=Bv (by rw[JN];omega)
@[simp]theorem jpG(l:List Fnd):D.slice l.length (l.flatMap Fnd.ds)=Dg l:=rfl
theorem Gb{nl:List Fct}{l:List Fnd}{F:Fct}{g:List Grd}(h:F.kind=0∨En F=true∨C8 F nl=true):Cr nl l F g=l:=if_pos h
theorem U2{nl:List Fct}{l:List Fnd}{F:Fct}{g:List Grd}(h: ¬(F.kind=0∨En F=true∨C8 F nl=true))(hi:Bz F (l.map Fnd.fact) 0= -1):Cr nl l F g=l++[⟨F,g⟩]:=by
 unfold Cr;rw[if_neg h];simp only[hi];rw[if_pos (by omega)]
theorem jjh{nl:List Fct}{l:List Fnd}{F:Fct}{g:List Grd}{k:Nat}(h: ¬(F.kind=0∨En F=true∨C8 F nl=true))(hk:k<l.length)(hi:Bz F (l.map Fnd.fact) 0=k):Cr nl l F g=if GL g l[k].grds then l.set k ⟨l[k].fact,g⟩ else l:=by
 unfold Cr;rw[if_neg h];simp only[hi];rw[if_neg (by omega),Int.toNat_natCast,An hk]
theorem QG(l:List Fnd)(k t:Nat)(hk:k<l.length)(ht:t<6):(l.flatMap Fnd.ds)[k*6+t]? =l[k].ds[t]? :=by
 have h:((l.flatMap Fnd.ds).drop (k*6)).take 6=l[k].ds:=E2 Fnd.ds_len l k hk
 rw[←h,List.getElem?_take,if_pos ht,List.getElem?_drop]
theorem ZA(l:List Fnd)(k:Nat)(g:List Grd)(hk:k<l.length):splice (k*6+5) [AR g] (l.flatMap Fnd.ds)=(l.set k ⟨l[k].fact,g⟩).flatMap Fnd.ds:=by
 have hlen:=JN l;rw[←Jx Fnd.ds_len l k ⟨l[k].fact,g⟩ hk]
 apply List.ext_getElem?
 intro j;rw[De _ _ _ (by simp;omega),De _ _ _ (by rw[Fnd.ds_len];omega)]
 by_cases h1:k*6≤j∧j<k*6+6
 ·obtain⟨t,rfl⟩: ∃t,j=k*6+t:=⟨j - k*6,by omega⟩
  have hg:=QG l k t hk (by omega)
  rw[if_pos (show k*6≤k*6+t∧k*6+t<k*6+(Fnd.ds ⟨l[k].fact,g⟩).length by rw[Fnd.ds_len];omega)]
  by_cases h5:t=5
  ·subst h5;rw[if_pos (by simp)]
   simp[Fnd.ds]
  ·rw[if_neg (by simp;omega),hg,Nat.add_sub_cancel_left]
   match t,h1,h5 with
   |0,_,_=>rfl
   |1,_,_=>rfl
   |2,_,_=>rfl
   |3,_,_=>rfl
   |4,_,_=>rfl
   |5,_,h=>exact absurd rfl h
   |t+6,h,_=>omega
 ·rw[if_neg (by simp;omega),if_neg (by rw[Fnd.ds_len];omega)]
theorem jnR(nl:List Fct)(l:List Fnd)(f:Fct)(g:List Grd)(hm:f.Mild)(hn: ∀x∈nl,x.Rt)(hnl:nl.length≤1000)(hl:FndOk l)(hll:l.length≤100000000000)(hg:g.length≤10∧ ∀x∈g,x.Short):
  Gy Tryz.prog 191 [.agg f.ds,.c (AR g)] [.ptr 6 0,.ptr 9 0] (B7 nl l) (B7 nl (FF nl l f g)):=by
 have k1:=Ga f hm;have hrt:=Hx (f:=f) hm;unfold FF;simp only[Fct.ds]at k1;generalize hF:normF f=F at*;clear hF;generalize hH:B7 nl (Cr nl l F g)=H;by_cases h0:l=[]
 ·subst h0;rw[FV];refine Ng [(1000006,6),(1000009,9)] (T:=tb) Ai mixed Tryz.func191 rfl (by decide) (Ah rfl) (Ah rfl) rfl rfl ?_;unfold St.initX
  simp -implicitDefEqProofs[jJ,-natCast_add,-natCast_mul,-List.map_set,-List.reduceReplicate,Bu]
  (first|refine Ab k1 ?_|refine Aa k1 ?_)
  simp -implicitDefEqProofs[jJ,-natCast_add,-natCast_mul,-List.map_set,-List.reduceReplicate,Fct.res];refine⟨fun hk=> ?_,fun hk=> ?_⟩
  ·have hrt:=hrt hk;have k2:=KM F hrt.mild;have k3:=Q5 F nl hrt hn (by omega)
   have k4:=Vs F [] hrt (by simp) (by simp)
   simp only[Fct.ds]at k2 k3 k4
   (first|refine Ab k2 ?_|refine Aa k2 ?_)
   cases ht:En F with
   |true=>
    simp -implicitDefEqProofs[jJ,-natCast_add,-natCast_mul,-List.map_set,-List.reduceReplicate];rw[Gb (.inr (.inl ht))]at hH;subst hH;refine DP nl [] _ (by simp) _ [(6,1000006),(9,1000009)] ?_ ?_
    ·simp -implicitDefEqProofs[jJ,-natCast_add,-natCast_mul,-List.map_set,-List.reduceReplicate,As,lk,Bu]
    ·simp -implicitDefEqProofs[jJ,-natCast_add,-natCast_mul,-List.map_set,-List.reduceReplicate,As,lk,FV]
   |false=>
    simp -implicitDefEqProofs[jJ,-natCast_add,-natCast_mul,-List.map_set,-List.reduceReplicate]
    (first|refine Ab k3 ?_|refine Aa k3 ?_)
    cases ha:C8 F nl with
    |true=>
     simp -implicitDefEqProofs[jJ,-natCast_add,-natCast_mul,-List.map_set,-List.reduceReplicate];rw[Gb (.inr (.inr ha))]at hH;subst hH;refine DP nl [] _ (by simp) _ [(6,1000006),(9,1000009)] ?_ ?_
     ·simp -implicitDefEqProofs[jJ,-natCast_add,-natCast_mul,-List.map_set,-List.reduceReplicate,As,lk,Bu]
     ·simp -implicitDefEqProofs[jJ,-natCast_add,-natCast_mul,-List.map_set,-List.reduceReplicate,As,lk,FV]
    |false=>
     simp -implicitDefEqProofs[jJ,-natCast_add,-natCast_mul,-List.map_set,-List.reduceReplicate];simp only[Dg,List.length_nil,List.flatMap_nil]at k4
     (first|refine Ab k4 ?_|refine Aa k4 ?_)
     simp -implicitDefEqProofs[jJ,-natCast_add,-natCast_mul,-List.map_set,-List.reduceReplicate,Bz];rw[U2 (by simp[hk,ht,ha]) rfl]at hH
     subst hH;refine DP nl _ _ (by simp) _ [(6,1000006),(9,1000009),(80,33)] ?_ ?_
     ·simp -implicitDefEqProofs[jJ,-natCast_add,-natCast_mul,-List.map_set,-List.reduceReplicate,As,lk,Bu]
     ·simp -implicitDefEqProofs[jJ,-natCast_add,-natCast_mul,-List.map_set,-List.reduceReplicate,As,lk,B7,Fnd.ds]
  ·rw[Gb (.inl hk)]at hH
   subst hH;refine DP nl [] _ (by simp) _ [(6,1000006),(9,1000009)] ?_ ?_
   ·simp -implicitDefEqProofs[jJ,-natCast_add,-natCast_mul,-List.map_set,-List.reduceReplicate,As,lk,Bu]
   ·simp -implicitDefEqProofs[jJ,-natCast_add,-natCast_mul,-List.map_set,-List.reduceReplicate,As,lk,FV]
 ·rw[Fz nl h0]
  refine Ng [(1000006,6),(1000009,9),(1000080,80)] (T:=tb) Ai mixed Tryz.func191 rfl (by decide) (Ah rfl) (Ah rfl) rfl rfl ?_;unfold St.initX
  simp -implicitDefEqProofs[jJ,-natCast_add,-natCast_mul,-List.map_set,-List.reduceReplicate,Bu]
  (first|refine Ab k1 ?_|refine Aa k1 ?_)
  simp -implicitDefEqProofs[jJ,-natCast_add,-natCast_mul,-List.map_set,-List.reduceReplicate,Fct.res];refine⟨fun hk=> ?_,fun hk=> ?_⟩
  ·have hrt:=hrt hk;have k2:=KM F hrt.mild;have k3:=Q5 F nl hrt hn (by omega)
   have k4:=Vs F l hrt hl.rt (by omega)
   simp only[Fct.ds]at k2 k3 k4
   (first|refine Ab k2 ?_|refine Aa k2 ?_)
   cases ht:En F with
   |true=>
    simp -implicitDefEqProofs[jJ,-natCast_add,-natCast_mul,-List.map_set,-List.reduceReplicate];rw[Gb (.inr (.inl ht))]at hH;subst hH;refine DP nl l _ (by simp) _ [(6,1000006),(9,1000009),(80,1000080)] ?_ ?_
    ·simp -implicitDefEqProofs[jJ,-natCast_add,-natCast_mul,-List.map_set,-List.reduceReplicate,As,lk,Bu]
    ·simp -implicitDefEqProofs[jJ,-natCast_add,-natCast_mul,-List.map_set,-List.reduceReplicate,As,lk,Fz nl h0]
   |false=>
    simp -implicitDefEqProofs[jJ,-natCast_add,-natCast_mul,-List.map_set,-List.reduceReplicate]
    (first|refine Ab k3 ?_|refine Aa k3 ?_)
    cases ha:C8 F nl with
    |true=>
     simp -implicitDefEqProofs[jJ,-natCast_add,-natCast_mul,-List.map_set,-List.reduceReplicate];rw[Gb (.inr (.inr ha))]at hH;subst hH;refine DP nl l _ (by simp) _ [(6,1000006),(9,1000009),(80,1000080)] ?_ ?_
     ·simp -implicitDefEqProofs[jJ,-natCast_add,-natCast_mul,-List.map_set,-List.reduceReplicate,As,lk,Bu]
     ·simp -implicitDefEqProofs[jJ,-natCast_add,-natCast_mul,-List.map_set,-List.reduceReplicate,As,lk,Fz nl h0]
    |false=>
     simp -implicitDefEqProofs[jJ,-natCast_add,-natCast_mul,-List.map_set,-List.reduceReplicate]
     (first|refine Ab k4 ?_|refine Aa k4 ?_)
     rcases JT F (l.map Fnd.fact) 0 with⟨hi,_⟩|⟨k,hkl,hi,_⟩
     ·rw[U2 (by simp[hk,ht,ha]) hi]at hH
      subst hH;simp -implicitDefEqProofs[jJ,-natCast_add,-natCast_mul,-List.map_set,-List.reduceReplicate,hi];refine⟨⟨by omega,by omega⟩,?_⟩
      refine DP nl _ _ (by simp) _ [(6,1000006),(9,1000009),(80,33)] ?_ ?_
      ·simp -implicitDefEqProofs[jJ,-natCast_add,-natCast_mul,-List.map_set,-List.reduceReplicate,As,lk,Bu]
      ·simp -implicitDefEqProofs[jJ,-natCast_add,-natCast_mul,-List.map_set,-List.reduceReplicate,As,lk,B7,Fnd.ds]
     ·rw[List.length_map]at hkl
      rw[Nat.zero_add]at hi
      rw[jjh (by simp[hk,ht,ha]) hkl hi]at hH
      have g5:=QG l k 5 hkl (by omega)
      simp only[Fnd.ds,List.getElem?_cons_succ,List.getElem?_cons_zero]at g5;have hsh:=hl.sh l[k] (AK hkl);have k5:=jji g l[k].grds hg.2 hsh.2 (by omega) (by omega)
      simp -implicitDefEqProofs[jJ,-natCast_add,-natCast_mul,-List.map_set,-List.reduceReplicate,hi,hkl,g5]
      (first|refine Ab k5 ?_|refine Aa k5 ?_)
      cases he:GL g l[k].grds with
      |false=>
       rw[he,if_neg (by simp)]at hH
       subst hH;simp -implicitDefEqProofs[jJ,-natCast_add,-natCast_mul,-List.map_set,-List.reduceReplicate];refine DP nl _ _ (by simp) _ [(6,1000006),(9,1000009),(80,1000080)] ?_ ?_
       ·simp -implicitDefEqProofs[jJ,-natCast_add,-natCast_mul,-List.map_set,-List.reduceReplicate,As,lk,Bu]
       ·simp -implicitDefEqProofs[jJ,-natCast_add,-natCast_mul,-List.map_set,-List.reduceReplicate,As,lk,Fz nl h0]
      |true=>
       rw[he,if_pos rfl]at hH
       subst hH;simp -implicitDefEqProofs[jJ,-natCast_add,-natCast_mul,-List.map_set,-List.reduceReplicate,hkl];have hset:l.set k ⟨l[k].fact,g⟩≠[]:=by
        intro e;have:=congrArg List.length e;simp at this;exact h0 this
       refine⟨by omega,?_⟩
       refine DP nl _ _ (by simp) _ [(6,1000006),(9,1000009),(80,1000080)] ?_ ?_
       ·simp -implicitDefEqProofs[jJ,-natCast_add,-natCast_mul,-List.map_set,-List.reduceReplicate,As,lk,Bu]
       ·rw[Fz nl hset]
        simp -implicitDefEqProofs[jJ,-natCast_add,-natCast_mul,-List.map_set,-List.reduceReplicate,As,lk,ZA l k g hkl]
  ·rw[Gb (.inl hk)]at hH
   subst hH;refine DP nl l _ (by simp) _ [(6,1000006),(9,1000009),(80,1000080)] ?_ ?_
   ·simp -implicitDefEqProofs[jJ,-natCast_add,-natCast_mul,-List.map_set,-List.reduceReplicate,As,lk,Bu]
   ·simp -implicitDefEqProofs[jJ,-natCast_add,-natCast_mul,-List.map_set,-List.reduceReplicate,As,lk,Fz nl h0]
end Go.Va
namespace Go.Va
open Go.Proofs
abbrev B9:=Fct×List Grd
def DH(x:B9):List A:=[.agg x.1.ds,.c (AR x.2)]
def CU(r:Rul)(b:Bnd):List B9:=if FT b r.guards then r.concl.map fun p=>(Fo b p,guardsL b r.guards) else []
def DK(E:Bnd→List B9)(M:Nat→Bnd→List Bnd):Nat→Nat→Bnd→List B9
 |0,_,b=>E b
 |k+1,i,b=>(M i b).flatMap (DK E M k (i+1))
def CL(r:Rul)(nl:List Fct)(i:Nat)(b:Bnd):List Bnd:=match r.prem[i]?,nl[i]? with|some p,some f=>ED p f b|_,_=>[]
def saysP(r:Rul)(nl:List Fct):List B9:=DK (CU r) (CL r nl) nl.length 0 Bnd.zero
def runF(nl:List Fct)(l:List Fnd)(P:List B9):List Fnd:=P.foldl (fun l x=>FF nl l x.1 x.2) l
def E3(a b:Fnd):Int:=Bb a.fact b.fact
def DT(r:Rul)(nl:List Fct):List Fnd:=CG E3 (runF nl [] (saysP r nl))
theorem jf5(r:Rul)(b:Bnd):Do r b=(CU r b).map DH:=by
 unfold Do CU DC;split
 ·rw[List.drop_zero,List.map_map];rfl
 ·rfl
theorem T9(r:Rul)(M:Nat→Bnd→List Bnd): ∀(k i:Nat) (b:Bnd),found1 (Do r) M k i b=(DK (CU r) M k i b).map DH
 |0,i,b=>jf5 r b
 |k+1,i,b=>by
  show(M i b).flatMap (found1 (Do r) M k (i+1))=((M i b).flatMap (DK (CU r) M k (i+1))).map DH
  rw[List.map_flatMap]
  exact congrArg (fun g=>(M i b).flatMap g) (funext fun c=>T9 r M k (i+1) c)
theorem HT{α β:Type}{f:α→List β}{m:Nat}: ∀{l:List α},(∀a∈l,(f a).length≤m)→(l.flatMap f).length≤l.length*m
 |[],_=>by simp
 |a::l,h=>by
  rw[List.flatMap_cons,List.length_append,List.length_cons,Nat.succ_mul]
  have h1:=h a (by simp)
  have h2:=HT (l:=l) fun b hb=>h b (by simp[hb])
  omega
def Gk:Nat→Nat
 |0=>1
 |n+1=>(n+1)*Gk n
theorem Rk: ∀n,1≤Gk n
 |0=>At _
 |n+1=>Nat.mul_pos (Nat.succ_pos n) (Rk n)
theorem Sz: ∀(l:List UInt8) (pts:List Int) (b:Bnd),(mp l pts b).length≤Gk pts.length
 |[],pts,b=>by rw[mp];exact Rk _
 |c::r,pts,b=>by
  rw[mp]
  cases hn:pts.length with
  |zero=>simp[Gk]
  |succ n=>
   have:=HT (l:=List.range (n+1)) (m:=Gk n) (f:=fun i=>match b.point (c.toNat - 65) (pts.getD i 0)with|none=>[]|some b'=>mp r (pts.eraseIdx i) b') fun i hi=>by
    rw[List.mem_range]at hi
    split
    ·exact Nat.zero_le _
    ·rename_i b' _
     have h:=Sz r (pts.eraseIdx i) b';rw[List.length_eraseIdx,if_pos (by omega),hn,Nat.add_sub_cancel]at h
     exact h
   rw[List.length_range]at this
   exact this
theorem Lv: ∀(n:Nat) (ls:List UInt8) (l:List (Int×Int)) (b:Bnd),ls.length≤n→(ms ls l b).length≤2^n
 |n,[],l,b,_=>by cases l<;>(rw[ms];exact Nat.one_le_two_pow)
 |n,x::r,[],b,_=>by simp[ms]
 |0,x::r,s::l,b,hn=>by simp at hn
 |n+1,x::r,s::l,b,hn=>by
  simp only[List.length_cons,Nat.add_le_add_iff_right]at hn;by_cases h97:97≤x.toNat
  ·rw[Kf h97]
   split
   ·exact Nat.zero_le _
   ·rename_i b' _
    have:=Lv n r l b' hn
    rw[Nat.pow_succ];omega
  ·cases r with
   |nil=>simp only[ms,if_neg h97];exact Nat.zero_le _
   |cons d r=>
    have aux: ∀p q:Int,(C3 x d r l b p q).length≤2^n:=by
     intro p q;unfold C3;split
     ·exact Nat.zero_le _
     ·split
      ·exact Nat.zero_le _
      ·rename_i b2 _
       exact Lv n r l b2 (by simp at hn;omega)
    have h1:=aux s.1 s.2;have h2:=aux s.2 s.1;rw[KY h97,List.length_append,Nat.pow_succ];split
    ·simp;omega
    ·omega
theorem jcs(k:Int)(f:Fct):(BM k f).length≤8:=by
 unfold BM;split
 ·simp
 ·split
  ·simp
  ·split<;>simp
theorem T8(x y z:Nat)(b:Bnd)(m p q:Int):(CB x y z b m p q).length≤1:=by
 unfold CB;split
 ·simp
 ·split
  ·simp
  ·split<;>simp
theorem jhP(p:Pat)(f:Fct)(hf:f.Rt)(hp:p.letters.length≤8)(b:Bnd):(ED p f b).length≤2048:=by
 obtain⟨h1,h2,h3,h4⟩:=hf.parts
 unfold ED;split
 ·rename_i hk
  split
  ·rename_i he
   have:=Sz p.letters f.args b
   have e:f.args.length≤4:=by
    rw[h2,he]
    rcases hk with h|h|h<;>rw[h]<;>decide
   have:Gk f.args.length≤24:=by
    generalize f.args.length=n at e
    match n,e with
    |0,_=>decide
    |1,_=>decide
    |2,_=>decide
    |3,_=>decide
    |4,_=>decide
   omega
  ·simp
 ·split
  ·split
   ·rw[List.length_append]
    have h1:=T8 ((p.letters.getD 0 0).toNat - 65) ((p.letters.getD 1 0).toNat - 65) ((p.letters.getD 2 0).toNat - 65) b (f.args.getD 0 0) (f.args.getD 1 0) (f.args.getD 2 0);have h2:=T8 ((p.letters.getD 0 0).toNat - 65) ((p.letters.getD 1 0).toNat - 65) ((p.letters.getD 2 0).toNat - 65) b (f.args.getD 0 0) (f.args.getD 2 0) (f.args.getD 1 0);omega
   ·simp
  ·have h1:=HT (l:=BM p.kind f) (m:=256) (f:=fun l=>ms p.letters l b) fun l _=>Lv 8 p.letters l b hp
   have h2:=jcs p.kind f;have:(BM p.kind f).length*256≤8*256:=Eg _ h2;omega
structure Rul.Good (r:Rul):Prop where
 fit: ∀p∈r.prem,p.Fit∧p.letters.length≤8
 hg: ∀p∈r.guards,p.Ok∧p.letters.length≤8
 hc: ∀p∈r.concl,p.Ok∧0≤p.n∧p.n≤1000
 lp:r.prem.length≤3
 lc:r.concl.length≤10
 lg:r.guards.length≤10
theorem jgP(r:Rul)(hr:r.Good)(nl:List Fct)(hn: ∀f∈nl,f.Rt)(i:Nat)(b:Bnd):(CL r nl i b).length≤2048:=by
 unfold CL;split
 ·rename_i p f h1 h2
  exact jhP p f (hn f (Bm h2)) (hr.fit p (Bm h1)).2 b
 ·simp
theorem PD(r:Rul)(nl:List Fct)(hn: ∀f∈nl,f.Rt)(i:Nat)(b:Bnd)(hb:b.Ok): ∀c∈CL r nl i b,c.Ok:=by
 intro c hc;unfold CL at hc;split at hc
 ·rename_i p f h1 h2
  exact jlU p f (hn f (Bm h2)) b hb c hc
 ·cases hc
theorem Zy(r:Rul)(hr:r.Good)(b:Bnd):(CU r b).length≤10:=by
 unfold CU;split
 ·rw[List.length_map];exact hr.lc
 ·simp
theorem Na(r:Rul)(hr:r.Good)(nl:List Fct)(hn: ∀f∈nl,f.Rt): ∀(k i:Nat) (b:Bnd),(DK (CU r) (CL r nl) k i b).length≤2048^k*10
 |0,i,b=>by simpa [DK]using Zy r hr b
 |k+1,i,b=>by
  have:=HT (l:=CL r nl i b) (m:=2048^k*10) (f:=DK (CU r) (CL r nl) k (i+1)) fun c _=>Na r hr nl hn k (i+1) c
  have h2:=Eg (2048^k*10) (jgP r hr nl hn i b);have e:2048^(k+1)*10=2048*(2048^k*10):=by rw[Nat.pow_succ,Nat.mul_comm (2048^k) 2048,Nat.mul_assoc]
  rw[e]
  exact Nat.le_trans this h2
theorem Bnd.zero_ok:Bnd.zero.Ok:=by
 intro y hy;have:=List.eq_of_mem_replicate hy;omega
theorem Rr(r:Rul)(hr:r.Good)(nl:List Fct)(hn: ∀f∈nl,f.Rt)(hl:nl.length≤3):(saysP r nl).length≤90000000000:=by
 have h:=Na r hr nl hn nl.length 0 Bnd.zero;have h2:2048^nl.length≤2048^3:=Nat.pow_le_pow_right (by omega) hl
 unfold saysP;omega
theorem Vq{E:Bnd→List B9}{M:Nat→Bnd→List Bnd}(hM: ∀i b,b.Ok→ ∀c∈M i b,c.Ok){Q:B9→Prop}(hE: ∀b,b.Ok→ ∀x∈E b,Q x): ∀(k i:Nat) (b:Bnd),b.Ok→ ∀x∈DK E M k i b,Q x
 |0,i,b,hb,x,hx=>hE b hb x hx
 |k+1,i,b,hb,x,hx=>by
  rw[DK,List.mem_flatMap]at hx
  obtain⟨c,hc,hx⟩:=hx
  exact Vq hM hE k (i+1) c (hM i b hb c hc) x hx
def Kb(x:B9):Prop:=x.1.Mild∧x.2.length≤10∧ ∀g∈x.2,g.Short
theorem jjF(b:Bnd)(p:Pat)(hp:p.Ok∧0≤p.n∧p.n≤1000):(Fo b p).Mild:=by
 have hl:=G8 b p.letters;have h2:=hp.1.2.1;obtain⟨n,hn⟩: ∃n:Nat,p.n=(n:Int):=⟨p.n.toNat,by omega⟩
 have hs: ∀m:Nat,m≤1000→(limbs m).length≤4∧Ok (limbs m):=fun m hm=>by
  refine⟨?_,AC m⟩
  rw[jf7]
  split
  ·simp
  ·rw[show m/65536=0 by omega,B3];simp
 have e1:p.n.toNat≤1000:=by omega
 unfold Fo;refine⟨?_,?_,?_,?_,?_⟩
 ·show(if p.kind=9 then limbs p.n.toNat else []).length≤4
  split
  ·exact(hs _ e1).1
  ·simp
 ·show(if p.kind=9 then limbs 1 else []).length≤4
  split
  ·exact(hs 1 (by omega)).1
  ·simp
 ·show Ok (if p.kind=9 then limbs p.n.toNat else [])
  split
  ·exact(hs _ e1).2
  ·exact Ok.nil
 ·show Ok (if p.kind=9 then limbs 1 else [])
  split
  ·exact(hs 1 (by omega)).2
  ·exact Ok.nil
 ·show(Bi b p.letters).length≤_
  omega
theorem jfy(b:Bnd)(ps:List Pat)(hp: ∀p∈ps,p.Ok∧p.letters.length≤8)(hl:ps.length≤10):(guardsL b ps).length≤10∧ ∀g∈guardsL b ps,g.Short:=by
 unfold guardsL;split
 ·simp
 ·refine⟨?_,fun g hg=> ?_⟩
  ·have:=jbT (ps.map (FD b))
   rw[List.length_map]at this
   omega
  ·obtain⟨p,hp2,rfl⟩:=jzk.1 (jgJ hg)
   have h1:=G8 b p.letters;have h2:=(hp p hp2).2
   show(AU b p).length≤_
   unfold AU;rw[FM];omega
theorem RI(r:Rul)(hr:r.Good)(nl:List Fct)(hn: ∀f∈nl,f.Rt): ∀x∈saysP r nl,Kb x:=by
 refine Vq (fun i b hb=>PD r nl hn i b hb) (fun b hb x hx=> ?_) _ _ _ Bnd.zero_ok
 unfold CU at hx;split at hx
 ·obtain⟨p,hp,rfl⟩:=jzk.1 hx
  exact⟨jjF b p (hr.hc p hp),jfy b r.guards hr.hg hr.lg⟩
 ·cases hx
theorem Jb(nl:List Fct): ∀(P:List B9) (l:List Fnd),(runF nl l P).length≤l.length+P.length
 |[],l=>by simp[runF]
 |x::P,l=>by
  have h1:=Jb nl P (FF nl l x.1 x.2);have h2:=jkz nl l (normF x.1) x.2
  show(runF nl (FF nl l x.1 x.2) P).length≤_
  unfold FF at h1 ⊢;simp only[List.length_cons];omega
theorem HP{nl:List Fct}: ∀(P:List B9) (l:List Fnd),FndOk l→(∀x∈P,Kb x)→FndOk (runF nl l P)
 |[],l,h,_=>h
 |x::P,l,h,hP=>by
  have hx:=hP x (by simp)
  exact HP P _ (jmj h (Hx hx.1) hx.2) fun y hy=>hP y (by simp[hy])
def E1(c:UInt8):Bool:=decide (65≤c.toNat)&&decide (c.toNat<91)
def Lp(c:UInt8):Bool:=E1 c||decide (97≤c.toNat)&&decide (c.toNat<123)
def DF:List UInt8→Nat→Bool
 |[],_=>true
 |_::_,0=>false
 |c::r,n+1=>if 97≤c.toNat then decide (c.toNat<123)&&DF r n else
  match r with
  |[]=>false
  |d::r=>E1 c&&E1 d&&DF r n
theorem Ff{c:UInt8}(h:E1 c=true):cap c:=by
 unfold E1 at h
 simpa [cap]using h
theorem X6{c:UInt8}(h:Lp c=true):F4 c:=by
 unfold Lp at h;simp only[Bool.or_eq_true,Av,decide_eq_true_eq]at h;exact h.imp (fun h=>Ff h) id
theorem HN: ∀(n:Nat) (ls:List UInt8) (l:List (Int×Int)),ls.length≤n→DF ls l.length=true→Cf ls l
 |n,[],l,_,_=>by cases l<;>trivial
 |n,c::r,[],_,h=>by simp[DF]at h
 |0,c::r,s::l,hn,_=>by simp at hn
 |n+1,c::r,s::l,hn,h=>by
  simp only[List.length_cons,Nat.add_le_add_iff_right]at hn;by_cases h97:97≤c.toNat
  ·rw[Vh h97]
   cases r with
   |nil=>
    simp only[DF,List.length_cons,if_pos h97,Av,decide_eq_true_eq]at h;exact⟨h.1,by cases l<;>trivial⟩
   |cons d r=>
    simp only[DF,List.length_cons,if_pos h97,Av,decide_eq_true_eq]at h;exact⟨h.1,HN n _ l hn h.2⟩
  ·cases r with
   |nil=>simp[DF,h97]at h
   |cons d r=>
    simp only[DF,List.length_cons,if_neg h97,Av]at h;simp only[Cf,if_neg h97];exact⟨Ff h.1.1,Ff h.1.2,HN n r l (by simp at hn;omega) h.2⟩
def JP(p:Pat):Bool:=decide (p.letters.length≤8)&&
 (decide (p.kind=1∨p.kind=6∨p.kind=8)&&p.letters.all E1||
 (decide (p.kind=5)&&decide (p.letters.length=3)&&p.letters.all E1||
 (decide (p.kind=2∨p.kind=3∨p.kind=4)&&DF p.letters 2||decide (p.kind=7)&&DF p.letters 4)))
theorem jmL{p:Pat}(h:JP p=true):p.Fit∧p.letters.length≤8:=by
 unfold JP at h;simp only[Bool.or_eq_true,Av,decide_eq_true_eq,jzy]at h;obtain⟨h8,h⟩:=h;refine⟨⟨by omega,?_⟩,h8⟩
 rcases h with h|h|h|h
 ·exact .inl ⟨h.1,fun c hc=>Ff (h.2 c hc)⟩
 ·obtain⟨c1,c2,c3,e⟩:=FU h.1.2
  exact .inr (.inl ⟨h.1.1,c1,c2,c3,e,Ff (h.2 c1 (by simp[e])),Ff (h.2 c2 (by simp[e])),Ff (h.2 c3 (by simp[e]))⟩)
 ·exact .inr (.inr (.inl ⟨h.1,fun u v=>HN _ _ [u,v] (At _) h.2⟩))
 ·exact .inr (.inr (.inr ⟨h.1,fun u v w z=>HN _ _ [u,v,w,z] (At _) h.2⟩))
def okB(p:Pat):Bool:=decide (p.letters≠[])&&decide (p.letters.length≤8)&&p.letters.all Lp&&decide (0≤p.n)&&decide (p.n≤1000)
theorem Ie{p:Pat}(h:okB p=true):p.Ok∧p.letters.length≤8∧0≤p.n∧p.n≤1000:=by
 unfold okB at h;simp only[Av,decide_eq_true_eq,jzy]at h;obtain⟨⟨⟨⟨h1,h2⟩,h3⟩,h4⟩,h5⟩:=h;exact⟨⟨h1,by omega,fun c hc=>X6 (h3 c hc)⟩,h2,h4,h5⟩
def LO(r:Rul):Bool:=r.prem.all JP&&r.guards.all okB&&r.concl.all okB&&decide (r.prem.length≤3)&&decide (r.concl.length≤10)&&decide (r.guards.length≤10)
theorem WP{r:Rul}(h:LO r=true):r.Good:=by
 unfold LO at h;simp only[Av,decide_eq_true_eq,jzy]at h;obtain⟨⟨⟨⟨⟨h1,h2⟩,h3⟩,h4⟩,h5⟩,h6⟩:=h;exact⟨fun p hp=>jmL (h1 p hp),fun p hp=>⟨(Ie (h2 p hp)).1,(Ie (h2 p hp)).2.1⟩,fun p hp=>⟨(Ie (h3 p hp)).1,(Ie (h3 p hp)).2.2⟩,h4,h5,h6⟩
theorem jbh: ∀n:Fin 29,LO (AT n)=true:=by decide+kernel
theorem joA(n:Nat):(AT n).Good:=by
 by_cases h:n<29
 ·exact WP (jbh ⟨n,h⟩)
 ·rw[JD n (by omega)]
  exact WP (by decide)
theorem Kd(n:Int):(rulT n).Good:=by
 obtain⟨h1,h2,h3,h4,h5,h6⟩:=joA n.toNat
 exact⟨h1,h2,h3,h4,h5,h6⟩
end Go.Va
namespace Go.Va
open Int (natCast_add natCast_mul natCast_emod natCast_ediv natCast_pow)
open Go.Proofs Go.Shelf Go.RowKit Go.Lib Go.Sort
theorem jmo(a b:Fnd)(ha:a.fact.Rt)(hb:b.fact.Rt):CallsF Tryz.prog 199 [.agg a.ds,.agg b.ds] (.u (.c (.d (.int .i64 (E3 a b))))):=by
 have k:=IX a.fact b.fact ha.mild hb.mild ha.num hb.num;unfold E3;simp only[Fct.ds,Fnd.ds]at*;refine Aj (T:=tb) Ai mixed Tryz.func199 rfl (by decide) (Ah rfl) rfl ?_;unfold St.init
 simp -implicitDefEqProofs[jJ,-natCast_add,-natCast_mul]
 (first|refine Ab k ?_|refine Aa k ?_)
 simp -implicitDefEqProofs[jJ,-natCast_add,-natCast_mul]
theorem isCmp_N:IsCmp (fun x:Fnd=>x.fact.Num) E3:=⟨fun x y hx hy=>isCmp_F.rng _ _ hx hy,fun x y hx hy=>isCmp_F.anti _ _ hx hy,fun x y z hx hy hz=>isCmp_F.tr _ _ _ hx hy hz⟩
theorem jpb(i:Nat)(l:List Fnd)(app:Bool)(hl:l.length≤1099511627776)(hr:FndOk l):
  Gt Tryz.prog 198 [.c (.sl i 0 l.length),.c (.d (.fn 199 []))] [(i,.row 6 (l.flatMap Fnd.ds) app)] [(i,.row 6 ((CG E3 l).flatMap Fnd.ds) app)] (.tup []):=by
 have hnd: ∀x y,x∈l→y∈l→E3 x y=0→x=y:=by
  intro x y hx hy h;have e:x.fact=y.fact:=(KS (hr.rt x hx) (hr.rt y hy)).1 h;obtain⟨i,hi,rfl⟩:=List.mem_iff_getElem.1 hx;obtain⟨j,hj,rfl⟩:=List.mem_iff_getElem.1 hy;have hp:=List.pairwise_iff_getElem.1 hr.nd;rcases Nat.lt_trichotomy i j with h1|h1|h1
  ·exact absurd e (hp i j hi hj h1)
  ·subst h1;rfl
  ·exact absurd e.symm (hp j i hj hi h1)
 exact LT (P:=fun x=>x∈l) (by omega) Fnd.ds_len ⟨fun x y hx hy=>isCmp_N.rng x y (hr.rt x hx).num (hr.rt y hy).num,fun x y hx hy=>isCmp_N.anti x y (hr.rt x hx).num (hr.rt y hy).num,fun x y z hx hy hz=>isCmp_N.tr x y z (hr.rt x hx).num (hr.rt y hy).num (hr.rt z hz).num⟩
  (fun x hx=>(KS (hr.rt x hx) (hr.rt x hx)).2 rfl) hnd Tryz.laysSF rfl ⟨_,Tryz.func198,rfl,by decide⟩ Tryz.isAgg169 Tryz.sizeOf169 199
  (enters_of Tryz.func199 (by kernel_rfl) rfl) (fun x y hx hy=>jmo x y (hr.rt x hx) (hr.rt y hy)) i l app hl (fun f hf=>hf)
theorem NG:CallsF Tryz.prog 198 [.c (.slice 0 []),.c (.fn 199 [])] (.tup []):=by
 refine⟨⟨_,Tryz.func198,rfl,by decide⟩,fun w Z vals hZ hv=> ?_⟩
 obtain⟨v,v2,rfl⟩: ∃v v2,vals=[v,v2]:=by
  have:=hv.1
  match vals,this with
  |[v,v2],_=>exact⟨v,v2,rfl⟩
 obtain⟨p,cap,rfl⟩: ∃p cap,v= .slice p 0 cap:=by
  have h:RepD w Z (.slice 0 []) v:=hv.2 0 _ v rfl rfl;cases h with
  |slice n cs a c vs=>exact⟨some a,c,rfl⟩
  |snil=>exact⟨none,0,rfl⟩
 have hcon:=AnyF.slices_SortFunc_none Tryz.laysSF p cap v2 w;refine Calls.mono hcon fun e w' ⟨he,hw⟩=> ?_
 subst hw;refine⟨_,he,Ext.refl _,by simp[R.rows],⟨0,0,0,0,true,true,true⟩,fun ad h=>(by cases h.1),fun k=> ?_⟩
 have hρ: ∀i,Bd k [] (⟨0,0,0,0,true,true,true⟩:Own) i=none:=fun i=>rfl
 exact⟨⟨[],rfl,by simp[R.imp],fun j x v hx=>by simp[R.imp]at hx⟩,⟨⟨fun j o hj=>by(rw[R.rows,List.flatMap_nil,hρ]at hj;cases hj),fun j j' o o' hj=>by(rw[R.rows,List.flatMap_nil,hρ]at hj;cases hj),fun j o hj=>by(rw[R.rows,List.flatMap_nil,hρ]at hj;cases hj)⟩,fun i b hb=>by cases hb⟩⟩
end Go.Va
