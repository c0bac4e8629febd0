/- a part of the proof -/
import Derived.Test.YtkajmpgbnbikiaaGreatDoorMay
import Derived.Test.YtkajmpgbnbikiaaGreatDoorMzL
set_option linter.all false
set_option maxHeartbeats 4000000
set_option maxRecDepth 10000
namespace Go.Va
open Int (natCast_add natCast_mul natCast_emod natCast_ediv natCast_pow)
open Go.Proofs
def CD(nl:List Fct)(l:List Fnd):List (Nat×Blk):=
 if l=[] then [(9,.box [.nl]),(6,.box [.d (Cn nl)])]
 else [(9,.box [.sl 80 0 l.length]),(80,.row 6 (l.flatMap Fnd.ds) true),(6,.box [.d (Cn nl)])]
theorem Hv(nl:List Fct):CD nl []=[(9,.box [.nl]),(6,.box [.d (Cn nl)])]:=rfl
theorem Gr(nl:List Fct){l:List Fnd}(h:l≠[]):CD nl l=[(9,.box [.sl 80 0 l.length]),(80,.row 6 (l.flatMap Fnd.ds) true),(6,.box [.d (Cn nl)])]:=if_neg h
theorem EF(nl:List Fct)(l:List Fnd)(e:Exit)(he:e= .ret∨e= .normal)(st:St)(rs:List (Nat×Nat))(h1:Aw (rns rs st).t (BZ 2 [.ptr 6 0,.ptr 9 0]))(h2:Aw (rns rs st).h (CD nl l)):LX 2 [.ptr 6 0,.ptr 9 0] (CD nl l) e st:=by
 refine⟨he,rs,h1,h2,?_,?_⟩
 ·intro c hc i hi;unfold CD;simp only[jzn,C1,or_false]at hc;rcases hc with rfl|rfl<;>(simp[C.id?]at hi;subst hi;split<;>simp)
 ·intro i b hb;unfold CD at hb ⊢;split at hb
  ·rename_i h0
   rw[if_pos h0]
   simp only[lk]at hb;split at hb
   ·cases hb;intro c hc j hj;simp at hc;subst hc;simp[C.id?]at hj
   ·split at hb
    ·cases hb;intro c hc j hj;simp at hc;subst hc;simp[C.id?]at hj
    ·cases hb
  ·rename_i h0
   rw[if_neg h0]
   simp only[lk]at hb;split at hb
   ·cases hb;intro c hc j hj;simp at hc;subst hc;simp[C.id?]at hj;subst hj;simp
   ·split at hb
    ·cases hb;trivial
    ·split at hb
     ·cases hb;intro c hc j hj;simp at hc;subst hc;simp[C.id?]at hj
     ·cases hb
@[simp]theorem Zq(l:List Fnd):(l.flatMap Fnd.ds).take (l.length*6)=l.flatMap Fnd.ds:=AH (by rw[MZ];omega)
@[simp]theorem jk7(l:List Fnd):D.slice l.length (l.flatMap Fnd.ds)=DV l:=rfl
theorem Ho{nl:List Fct}{l:List Fnd}{F:Fct}{g:List Grd}(h:F.kind=0∨E5 F=true∨D5 F nl=true):C8 nl l F g=l:=if_pos h
theorem Uu{nl:List Fct}{l:List Fnd}{F:Fct}{g:List Grd}(h: ¬(F.kind=0∨E5 F=true∨D5 F nl=true))(hi:Ca F (l.map Fnd.fact) 0= -1):C8 nl l F g=l++[⟨F,g⟩]:=by
 unfold C8;rw[if_neg h];simp only[hi];rw[if_pos (by omega)]
theorem jgI{nl:List Fct}{l:List Fnd}{F:Fct}{g:List Grd}{k:Nat}(h: ¬(F.kind=0∨E5 F=true∨D5 F nl=true))(hk:k<l.length)(hi:Ca F (l.map Fnd.fact) 0=k):C8 nl l F g=if Ii g l[k].grds then l.set k ⟨l[k].fact,g⟩ else l:=by
 unfold C8;rw[if_neg h];simp only[hi];rw[if_neg (by omega),Int.toNat_natCast,Am hk]
theorem UD(l:List Fnd)(k t:Nat)(hk:k<l.length)(ht:t<6):(l.flatMap Fnd.ds)[k*6+t]? =l[k].ds[t]? :=by
 have h:((l.flatMap Fnd.ds).drop (k*6)).take 6=l[k].ds:=EO Fnd.ds_len l k hk
 rw[←h,List.getElem?_take,if_pos ht,List.getElem?_drop]
theorem jbK(l:List Fnd)(k:Nat)(g:List Grd)(hk:k<l.length):splice (k*6+5) [Br g] (l.flatMap Fnd.ds)=(l.set k ⟨l[k].fact,g⟩).flatMap Fnd.ds:=by
 have hlen:=MZ l;rw[←Mb Fnd.ds_len l k ⟨l[k].fact,g⟩ hk]
 apply List.ext_getElem?
 intro j;rw[Cs _ _ _ (by simp;omega),Cs _ _ _ (by rw[Fnd.ds_len];omega)]
 by_cases h1:k*6≤j∧j<k*6+6
 ·obtain⟨t,rfl⟩: ∃t,j=k*6+t:=⟨j - k*6,by omega⟩
  have hg:=UD l k t hk (by omega)
  rw[if_pos (show k*6≤k*6+t∧k*6+t<k*6+(Fnd.ds ⟨l[k].fact,g⟩).length by rw[Fnd.ds_len];omega)]
  by_cases h5:t=5
  ·subst h5;rw[if_pos (by simp)]
   simp[Fnd.ds]
  ·rw[if_neg (by simp;omega),hg,Nat.add_sub_cancel_left]
   match t,h1,h5 with
   |0,_,_=>rfl
   |1,_,_=>rfl
   |2,_,_=>rfl
   |3,_,_=>rfl
   |4,_,_=>rfl
   |5,_,h=>exact absurd rfl h
   |t+6,h,_=>omega
 ·rw[if_neg (by simp;omega),if_neg (by rw[Fnd.ds_len];omega)]
theorem jiD(nl:List Fct)(l:List Fnd)(f:Fct)(g:List Grd)(hm:f.Mild)(hn: ∀x∈nl,x.Rt)(hnl:nl.length≤1000)(hl:FndOk l)(hll:l.length≤100000000000)(hg:g.length≤10∧ ∀x∈g,x.Short):
  HE Tryz.prog 191 [.agg f.ds,.c (Br g)] [.ptr 6 0,.ptr 9 0] (CD nl l) (CD nl (GV nl l f g)):=by
 have k1:=Hf f hm;have hrt:=Iy (f:=f) hm;unfold GV;simp only[Fct.ds]at k1;generalize hF:normF f=F at*;clear hF;generalize hH:CD nl (C8 nl l F g)=H;by_cases h0:l=[]
 ·subst h0;rw[Hv];refine R6 [(1000006,6),(1000009,9)] (T:=tb) Ah mixed Tryz.func191 rfl (by decide) (Af rfl) (Af rfl) rfl rfl ?_;unfold St.initX
  simp -implicitDefEqProofs[jJ,-natCast_add,-natCast_mul,-List.map_set,-List.reduceReplicate,BZ]
  (first|refine Ab k1 ?_|refine Aa k1 ?_)
  simp -implicitDefEqProofs[jJ,-natCast_add,-natCast_mul,-List.map_set,-List.reduceReplicate,Fct.res];refine⟨fun hk=> ?_,fun hk=> ?_⟩
  ·have hrt:=hrt hk;have k2:=Lz F hrt.mild;have k3:=Qu F nl hrt hn (by omega)
   have k4:=QI F [] hrt (by simp) (by simp)
   simp only[Fct.ds]at k2 k3 k4
   (first|refine Ab k2 ?_|refine Aa k2 ?_)
   cases ht:E5 F with
   |true=>
    simp -implicitDefEqProofs[jJ,-natCast_add,-natCast_mul,-List.map_set,-List.reduceReplicate];rw[Ho (.inr (.inl ht))]at hH;subst hH;refine EF nl [] _ (by simp) _ [(6,1000006),(9,1000009)] ?_ ?_
    ·simp -implicitDefEqProofs[jJ,-natCast_add,-natCast_mul,-List.map_set,-List.reduceReplicate,Aw,lk,BZ]
    ·simp -implicitDefEqProofs[jJ,-natCast_add,-natCast_mul,-List.map_set,-List.reduceReplicate,Aw,lk,Hv]
   |false=>
    simp -implicitDefEqProofs[jJ,-natCast_add,-natCast_mul,-List.map_set,-List.reduceReplicate]
    (first|refine Ab k3 ?_|refine Aa k3 ?_)
    cases ha:D5 F nl with
    |true=>
     simp -implicitDefEqProofs[jJ,-natCast_add,-natCast_mul,-List.map_set,-List.reduceReplicate];rw[Ho (.inr (.inr ha))]at hH;subst hH;refine EF nl [] _ (by simp) _ [(6,1000006),(9,1000009)] ?_ ?_
     ·simp -implicitDefEqProofs[jJ,-natCast_add,-natCast_mul,-List.map_set,-List.reduceReplicate,Aw,lk,BZ]
     ·simp -implicitDefEqProofs[jJ,-natCast_add,-natCast_mul,-List.map_set,-List.reduceReplicate,Aw,lk,Hv]
    |false=>
     simp -implicitDefEqProofs[jJ,-natCast_add,-natCast_mul,-List.map_set,-List.reduceReplicate];simp only[DV,List.length_nil,List.flatMap_nil]at k4
     (first|refine Ab k4 ?_|refine Aa k4 ?_)
     simp -implicitDefEqProofs[jJ,-natCast_add,-natCast_mul,-List.map_set,-List.reduceReplicate,Ca];rw[Uu (by simp[hk,ht,ha]) rfl]at hH
     subst hH;refine EF nl _ _ (by simp) _ [(6,1000006),(9,1000009),(80,33)] ?_ ?_
     ·simp -implicitDefEqProofs[jJ,-natCast_add,-natCast_mul,-List.map_set,-List.reduceReplicate,Aw,lk,BZ]
     ·simp -implicitDefEqProofs[jJ,-natCast_add,-natCast_mul,-List.map_set,-List.reduceReplicate,Aw,lk,CD,Fnd.ds]
  ·rw[Ho (.inl hk)]at hH
   subst hH;refine EF nl [] _ (by simp) _ [(6,1000006),(9,1000009)] ?_ ?_
   ·simp -implicitDefEqProofs[jJ,-natCast_add,-natCast_mul,-List.map_set,-List.reduceReplicate,Aw,lk,BZ]
   ·simp -implicitDefEqProofs[jJ,-natCast_add,-natCast_mul,-List.map_set,-List.reduceReplicate,Aw,lk,Hv]
 ·rw[Gr nl h0]
  refine R6 [(1000006,6),(1000009,9),(1000080,80)] (T:=tb) Ah mixed Tryz.func191 rfl (by decide) (Af rfl) (Af rfl) rfl rfl ?_;unfold St.initX
  simp -implicitDefEqProofs[jJ,-natCast_add,-natCast_mul,-List.map_set,-List.reduceReplicate,BZ]
  (first|refine Ab k1 ?_|refine Aa k1 ?_)
  simp -implicitDefEqProofs[jJ,-natCast_add,-natCast_mul,-List.map_set,-List.reduceReplicate,Fct.res];refine⟨fun hk=> ?_,fun hk=> ?_⟩
  ·have hrt:=hrt hk;have k2:=Lz F hrt.mild;have k3:=Qu F nl hrt hn (by omega)
   have k4:=QI F l hrt hl.rt (by omega)
   simp only[Fct.ds]at k2 k3 k4
   (first|refine Ab k2 ?_|refine Aa k2 ?_)
   cases ht:E5 F with
   |true=>
    simp -implicitDefEqProofs[jJ,-natCast_add,-natCast_mul,-List.map_set,-List.reduceReplicate];rw[Ho (.inr (.inl ht))]at hH;subst hH;refine EF nl l _ (by simp) _ [(6,1000006),(9,1000009),(80,1000080)] ?_ ?_
    ·simp -implicitDefEqProofs[jJ,-natCast_add,-natCast_mul,-List.map_set,-List.reduceReplicate,Aw,lk,BZ]
    ·simp -implicitDefEqProofs[jJ,-natCast_add,-natCast_mul,-List.map_set,-List.reduceReplicate,Aw,lk,Gr nl h0]
   |false=>
    simp -implicitDefEqProofs[jJ,-natCast_add,-natCast_mul,-List.map_set,-List.reduceReplicate]
    (first|refine Ab k3 ?_|refine Aa k3 ?_)
    cases ha:D5 F nl with
    |true=>
     simp -implicitDefEqProofs[jJ,-natCast_add,-natCast_mul,-List.map_set,-List.reduceReplicate];rw[Ho (.inr (.inr ha))]at hH;subst hH;refine EF nl l _ (by simp) _ [(6,1000006),(9,1000009),(80,1000080)] ?_ ?_
     ·simp -implicitDefEqProofs[jJ,-natCast_add,-natCast_mul,-List.map_set,-List.reduceReplicate,Aw,lk,BZ]
     ·simp -implicitDefEqProofs[jJ,-natCast_add,-natCast_mul,-List.map_set,-List.reduceReplicate,Aw,lk,Gr nl h0]
    |false=>
     simp -implicitDefEqProofs[jJ,-natCast_add,-natCast_mul,-List.map_set,-List.reduceReplicate]
     (first|refine Ab k4 ?_|refine Aa k4 ?_)
     rcases LV F (l.map Fnd.fact) 0 with⟨hi,_⟩|⟨k,hkl,hi,_⟩
     ·rw[Uu (by simp[hk,ht,ha]) hi]at hH
      subst hH;simp -implicitDefEqProofs[jJ,-natCast_add,-natCast_mul,-List.map_set,-List.reduceReplicate,hi];refine⟨⟨by omega,by omega⟩,?_⟩
      refine EF nl _ _ (by simp) _ [(6,1000006),(9,1000009),(80,33)] ?_ ?_
      ·simp -implicitDefEqProofs[jJ,-natCast_add,-natCast_mul,-List.map_set,-List.reduceReplicate,Aw,lk,BZ]
      ·simp -implicitDefEqProofs[jJ,-natCast_add,-natCast_mul,-List.map_set,-List.reduceReplicate,Aw,lk,CD,Fnd.ds]
     ·rw[List.length_map]at hkl
      rw[Nat.zero_add]at hi
      rw[jgI (by simp[hk,ht,ha]) hkl hi]at hH
      have g5:=UD l k 5 hkl (by omega)
      simp only[Fnd.ds,List.getElem?_cons_succ,List.getElem?_cons_zero]at g5;have hsh:=hl.sh l[k] (AD hkl);have k5:=jkk g l[k].grds hg.2 hsh.2 (by omega) (by omega)
      simp -implicitDefEqProofs[jJ,-natCast_add,-natCast_mul,-List.map_set,-List.reduceReplicate,hi,hkl,g5]
      (first|refine Ab k5 ?_|refine Aa k5 ?_)
      cases he:Ii g l[k].grds with
      |false=>
       rw[he,if_neg (by simp)]at hH
       subst hH;simp -implicitDefEqProofs[jJ,-natCast_add,-natCast_mul,-List.map_set,-List.reduceReplicate];refine EF nl _ _ (by simp) _ [(6,1000006),(9,1000009),(80,1000080)] ?_ ?_
       ·simp -implicitDefEqProofs[jJ,-natCast_add,-natCast_mul,-List.map_set,-List.reduceReplicate,Aw,lk,BZ]
       ·simp -implicitDefEqProofs[jJ,-natCast_add,-natCast_mul,-List.map_set,-List.reduceReplicate,Aw,lk,Gr nl h0]
      |true=>
       rw[he,if_pos rfl]at hH
       subst hH;simp -implicitDefEqProofs[jJ,-natCast_add,-natCast_mul,-List.map_set,-List.reduceReplicate,hkl];have hset:l.set k ⟨l[k].fact,g⟩≠[]:=by
        intro e;have:=congrArg List.length e;simp at this;exact h0 this
       refine⟨by omega,?_⟩
       refine EF nl _ _ (by simp) _ [(6,1000006),(9,1000009),(80,1000080)] ?_ ?_
       ·simp -implicitDefEqProofs[jJ,-natCast_add,-natCast_mul,-List.map_set,-List.reduceReplicate,Aw,lk,BZ]
       ·rw[Gr nl hset]
        simp -implicitDefEqProofs[jJ,-natCast_add,-natCast_mul,-List.map_set,-List.reduceReplicate,Aw,lk,jbK l k g hkl]
  ·rw[Ho (.inl hk)]at hH
   subst hH;refine EF nl l _ (by simp) _ [(6,1000006),(9,1000009),(80,1000080)] ?_ ?_
   ·simp -implicitDefEqProofs[jJ,-natCast_add,-natCast_mul,-List.map_set,-List.reduceReplicate,Aw,lk,BZ]
   ·simp -implicitDefEqProofs[jJ,-natCast_add,-natCast_mul,-List.map_set,-List.reduceReplicate,Aw,lk,Gr nl h0]
end Go.Va
namespace Go.Va
open Go.Proofs
abbrev CM:=Fct×List Grd
def Et(x:CM):List A:=[.agg x.1.ds,.c (Br x.2)]
def DC(r:Rul)(b:Bnd):List CM:=if GR b r.guards then r.concl.map fun p=>(GO b p,guardsL b r.guards) else []
def En(E:Bnd→List CM)(M:Nat→Bnd→List Bnd):Nat→Nat→Bnd→List CM
 |0,_,b=>E b
 |k+1,i,b=>(M i b).flatMap (En E M k (i+1))
def Di(r:Rul)(nl:List Fct)(i:Nat)(b:Bnd):List Bnd:=match r.prem[i]?,nl[i]? with|some p,some f=>FR p f b|_,_=>[]
def saysP(r:Rul)(nl:List Fct):List CM:=En (DC r) (Di r nl) nl.length 0 Bnd.zero
def runF(nl:List Fct)(l:List Fnd)(P:List CM):List Fnd:=P.foldl (fun l x=>GV nl l x.1 x.2) l
def Gl(a b:Fnd):Int:=BC a.fact b.fact
def EM(r:Rul)(nl:List Fct):List Fnd:=Dp Gl (runF nl [] (saysP r nl))
theorem jj8(r:Rul)(b:Bnd):Eb r b=(DC r b).map Et:=by
 unfold Eb DC EC;split
 ·rw[List.drop_zero,List.map_map];rfl
 ·rfl
theorem Ou(r:Rul)(M:Nat→Bnd→List Bnd): ∀(k i:Nat) (b:Bnd),found1 (Eb r) M k i b=(En (DC r) M k i b).map Et
 |0,i,b=>jj8 r b
 |k+1,i,b=>by
  show(M i b).flatMap (found1 (Eb r) M k (i+1))=((M i b).flatMap (En (DC r) M k (i+1))).map Et
  rw[List.map_flatMap]
  exact congrArg (fun g=>(M i b).flatMap g) (funext fun c=>Ou r M k (i+1) c)
theorem Jd{α β:Type}{f:α→List β}{m:Nat}: ∀{l:List α},(∀a∈l,(f a).length≤m)→(l.flatMap f).length≤l.length*m
 |[],_=>by simp
 |a::l,h=>by
  rw[List.flatMap_cons,List.length_append,List.length_cons,Nat.succ_mul]
  have h1:=h a (by simp)
  have h2:=Jd (l:=l) fun b hb=>h b (by simp[hb])
  omega
def G9:Nat→Nat
 |0=>1
 |n+1=>(n+1)*G9 n
theorem T7: ∀n,1≤G9 n
 |0=>Az _
 |n+1=>Nat.mul_pos (Nat.succ_pos n) (T7 n)
theorem RE: ∀(l:List UInt8) (pts:List Int) (b:Bnd),(mp l pts b).length≤G9 pts.length
 |[],pts,b=>by rw[mp];exact T7 _
 |c::r,pts,b=>by
  rw[mp]
  cases hn:pts.length with
  |zero=>simp[G9]
  |succ n=>
   have:=Jd (l:=List.range (n+1)) (m:=G9 n) (f:=fun i=>match b.point (c.toNat - 65) (pts.getD i 0)with|none=>[]|some b'=>mp r (pts.eraseIdx i) b') fun i hi=>by
    rw[List.mem_range]at hi
    split
    ·exact Nat.zero_le _
    ·rename_i b' _
     have h:=RE r (pts.eraseIdx i) b';rw[List.length_eraseIdx,if_pos (by omega),hn,Nat.add_sub_cancel]at h
     exact h
   rw[List.length_range]at this
   exact this
theorem LC: ∀(n:Nat) (ls:List UInt8) (l:List (Int×Int)) (b:Bnd),ls.length≤n→(ms ls l b).length≤2^n
 |n,[],l,b,_=>by cases l<;>(rw[ms];exact Nat.one_le_two_pow)
 |n,x::r,[],b,_=>by simp[ms]
 |0,x::r,s::l,b,hn=>by simp at hn
 |n+1,x::r,s::l,b,hn=>by
  simp only[List.length_cons,Nat.add_le_add_iff_right]at hn;by_cases h97:97≤x.toNat
  ·rw[Mz h97]
   split
   ·exact Nat.zero_le _
   ·rename_i b' _
    have:=LC n r l b' hn
    rw[Nat.pow_succ];omega
  ·cases r with
   |nil=>simp only[ms,if_neg h97];exact Nat.zero_le _
   |cons d r=>
    have aux: ∀p q:Int,(DM x d r l b p q).length≤2^n:=by
     intro p q;unfold DM;split
     ·exact Nat.zero_le _
     ·split
      ·exact Nat.zero_le _
      ·rename_i b2 _
       exact LC n r l b2 (by simp at hn;omega)
    have h1:=aux s.1 s.2;have h2:=aux s.2 s.1;rw[Ms h97,List.length_append,Nat.pow_succ];split
    ·simp;omega
    ·omega
theorem XK(k:Int)(f:Fct):(Co k f).length≤8:=by
 unfold Co;split
 ·simp
 ·split
  ·simp
  ·split<;>simp
theorem QX(x y z:Nat)(b:Bnd)(m p q:Int):(Dj x y z b m p q).length≤1:=by
 unfold Dj;split
 ·simp
 ·split
  ·simp
  ·split<;>simp
theorem Zt(p:Pat)(f:Fct)(hf:f.Rt)(hp:p.letters.length≤8)(b:Bnd):(FR p f b).length≤2048:=by
 obtain⟨h1,h2,h3,h4⟩:=hf.parts
 unfold FR;split
 ·rename_i hk
  split
  ·rename_i he
   have:=RE p.letters f.args b
   have e:f.args.length≤4:=by
    rw[h2,he]
    rcases hk with h|h|h<;>rw[h]<;>decide
   have:G9 f.args.length≤24:=by
    generalize f.args.length=n at e
    match n,e with
    |0,_=>decide
    |1,_=>decide
    |2,_=>decide
    |3,_=>decide
    |4,_=>decide
   omega
  ·simp
 ·split
  ·split
   ·rw[List.length_append]
    have h1:=QX ((p.letters.getD 0 0).toNat - 65) ((p.letters.getD 1 0).toNat - 65) ((p.letters.getD 2 0).toNat - 65) b (f.args.getD 0 0) (f.args.getD 1 0) (f.args.getD 2 0);have h2:=QX ((p.letters.getD 0 0).toNat - 65) ((p.letters.getD 1 0).toNat - 65) ((p.letters.getD 2 0).toNat - 65) b (f.args.getD 0 0) (f.args.getD 2 0) (f.args.getD 1 0);omega
   ·simp
  ·have h1:=Jd (l:=Co p.kind f) (m:=256) (f:=fun l=>ms p.letters l b) fun l _=>LC 8 p.letters l b hp
   have h2:=XK p.kind f;have:(Co p.kind f).length*256≤8*256:=Bk _ h2;omega
structure Rul.Good (r:Rul):Prop where
 fit: ∀p∈r.prem,p.Fit∧p.letters.length≤8
 hg: ∀p∈r.guards,p.Ok∧p.letters.length≤8
 hc: ∀p∈r.concl,p.Ok∧0≤p.n∧p.n≤1000
 lp:r.prem.length≤3
 lc:r.concl.length≤10
 lg:r.guards.length≤10
theorem jkl(r:Rul)(hr:r.Good)(nl:List Fct)(hn: ∀f∈nl,f.Rt)(i:Nat)(b:Bnd):(Di r nl i b).length≤2048:=by
 unfold Di;split
 ·rename_i p f h1 h2
  exact Zt p f (hn f (BB h2)) (hr.fit p (BB h1)).2 b
 ·simp
theorem Tk(r:Rul)(nl:List Fct)(hn: ∀f∈nl,f.Rt)(i:Nat)(b:Bnd)(hb:b.Ok): ∀c∈Di r nl i b,c.Ok:=by
 intro c hc;unfold Di at hc;split at hc
 ·rename_i p f h1 h2
  exact jhx p f (hn f (BB h2)) b hb c hc
 ·cases hc
theorem jjb(r:Rul)(hr:r.Good)(b:Bnd):(DC r b).length≤10:=by
 unfold DC;split
 ·rw[List.length_map];exact hr.lc
 ·simp
theorem Qa(r:Rul)(hr:r.Good)(nl:List Fct)(hn: ∀f∈nl,f.Rt): ∀(k i:Nat) (b:Bnd),(En (DC r) (Di r nl) k i b).length≤2048^k*10
 |0,i,b=>by simpa [En]using jjb r hr b
 |k+1,i,b=>by
  have:=Jd (l:=Di r nl i b) (m:=2048^k*10) (f:=En (DC r) (Di r nl) k (i+1)) fun c _=>Qa r hr nl hn k (i+1) c
  have h2:=Bk (2048^k*10) (jkl r hr nl hn i b);have e:2048^(k+1)*10=2048*(2048^k*10):=by rw[Nat.pow_succ,Nat.mul_comm (2048^k) 2048,Nat.mul_assoc]
  rw[e]
  exact Nat.le_trans this h2
theorem Bnd.zero_ok:Bnd.zero.Ok:=by
 intro y hy;have:=List.eq_of_mem_replicate hy;omega
theorem S7(r:Rul)(hr:r.Good)(nl:List Fct)(hn: ∀f∈nl,f.Rt)(hl:nl.length≤3):(saysP r nl).length≤90000000000:=by
 have h:=Qa r hr nl hn nl.length 0 Bnd.zero;have h2:2048^nl.length≤2048^3:=Nat.pow_le_pow_right (by omega) hl
 unfold saysP;omega
theorem S6{E:Bnd→List CM}{M:Nat→Bnd→List Bnd}(hM: ∀i b,b.Ok→ ∀c∈M i b,c.Ok){Q:CM→Prop}(hE: ∀b,b.Ok→ ∀x∈E b,Q x): ∀(k i:Nat) (b:Bnd),b.Ok→ ∀x∈En E M k i b,Q x
 |0,i,b,hb,x,hx=>hE b hb x hx
 |k+1,i,b,hb,x,hx=>by
  rw[En,List.mem_flatMap]at hx
  obtain⟨c,hc,hx⟩:=hx
  exact S6 hM hE k (i+1) c (hM i b hb c hc) x hx
def Lr(x:CM):Prop:=x.1.Mild∧x.2.length≤10∧ ∀g∈x.2,g.Short
theorem ja4(b:Bnd)(p:Pat)(hp:p.Ok∧0≤p.n∧p.n≤1000):(GO b p).Mild:=by
 have hl:=I2 b p.letters;have h2:=hp.1.2.1;obtain⟨n,hn⟩: ∃n:Nat,p.n=(n:Int):=⟨p.n.toNat,by omega⟩
 have hs: ∀m:Nat,m≤1000→(limbs m).length≤4∧Ok (limbs m):=fun m hm=>by
  refine⟨?_,An m⟩
  rw[Z3]
  split
  ·simp
  ·rw[show m/65536=0 by omega,Cc];simp
 have e1:p.n.toNat≤1000:=by omega
 unfold GO;refine⟨?_,?_,?_,?_,?_⟩
 ·show(if p.kind=9 then limbs p.n.toNat else []).length≤4
  split
  ·exact(hs _ e1).1
  ·simp
 ·show(if p.kind=9 then limbs 1 else []).length≤4
  split
  ·exact(hs 1 (by omega)).1
  ·simp
 ·show Ok (if p.kind=9 then limbs p.n.toNat else [])
  split
  ·exact(hs _ e1).2
  ·exact Ok.nil
 ·show Ok (if p.kind=9 then limbs 1 else [])
  split
  ·exact(hs 1 (by omega)).2
  ·exact Ok.nil
 ·show(BJ b p.letters).length≤_
  omega
theorem jh8(b:Bnd)(ps:List Pat)(hp: ∀p∈ps,p.Ok∧p.letters.length≤8)(hl:ps.length≤10):(guardsL b ps).length≤10∧ ∀g∈guardsL b ps,g.Short:=by
 unfold guardsL;split
 ·simp
 ·refine⟨?_,fun g hg=> ?_⟩
  ·have:=jbG (ps.map (Gx b))
   rw[List.length_map]at this
   omega
  ·obtain⟨p,hp2,rfl⟩:=jzk.1 (jdX hg)
   have h1:=I2 b p.letters;have h2:=(hp p hp2).2
   show(Bm b p).length≤_
   unfold Bm;rw[Gf];omega
theorem Qw(r:Rul)(hr:r.Good)(nl:List Fct)(hn: ∀f∈nl,f.Rt): ∀x∈saysP r nl,Lr x:=by
 refine S6 (fun i b hb=>Tk r nl hn i b hb) (fun b hb x hx=> ?_) _ _ _ Bnd.zero_ok
 unfold DC at hx;split at hx
 ·obtain⟨p,hp,rfl⟩:=jzk.1 hx
  exact⟨ja4 b p (hr.hc p hp),jh8 b r.guards hr.hg hr.lg⟩
 ·cases hx
theorem Km(nl:List Fct): ∀(P:List CM) (l:List Fnd),(runF nl l P).length≤l.length+P.length
 |[],l=>by simp[runF]
 |x::P,l=>by
  have h1:=Km nl P (GV nl l x.1 x.2);have h2:=jeJ nl l (normF x.1) x.2
  show(runF nl (GV nl l x.1 x.2) P).length≤_
  unfold GV at h1 ⊢;simp only[List.length_cons];omega
theorem KW{nl:List Fct}: ∀(P:List CM) (l:List Fnd),FndOk l→(∀x∈P,Lr x)→FndOk (runF nl l P)
 |[],l,h,_=>h
 |x::P,l,h,hP=>by
  have hx:=hP x (by simp)
  exact KW P _ (Wz h (Iy hx.1) hx.2) fun y hy=>hP y (by simp[hy])
def GS(c:UInt8):Bool:=decide (65≤c.toNat)&&decide (c.toNat<91)
def NJ(c:UInt8):Bool:=GS c||decide (97≤c.toNat)&&decide (c.toNat<123)
def Ef:List UInt8→Nat→Bool
 |[],_=>true
 |_::_,0=>false
 |c::r,n+1=>if 97≤c.toNat then decide (c.toNat<123)&&Ef r n else
  match r with
  |[]=>false
  |d::r=>GS c&&GS d&&Ef r n
theorem Gd{c:UInt8}(h:GS c=true):cap c:=by
 unfold GS at h
 simpa [cap]using h
theorem jgZ{c:UInt8}(h:NJ c=true):G5 c:=by
 unfold NJ at h;simp only[Bool.or_eq_true,AC,decide_eq_true_eq]at h;exact h.imp (fun h=>Gd h) id
theorem J6: ∀(n:Nat) (ls:List UInt8) (l:List (Int×Int)),ls.length≤n→Ef ls l.length=true→CE ls l
 |n,[],l,_,_=>by cases l<;>trivial
 |n,c::r,[],_,h=>by simp[Ef]at h
 |0,c::r,s::l,hn,_=>by simp at hn
 |n+1,c::r,s::l,hn,h=>by
  simp only[List.length_cons,Nat.add_le_add_iff_right]at hn;by_cases h97:97≤c.toNat
  ·rw[TA h97]
   cases r with
   |nil=>
    simp only[Ef,List.length_cons,if_pos h97,AC,decide_eq_true_eq]at h;exact⟨h.1,by cases l<;>trivial⟩
   |cons d r=>
    simp only[Ef,List.length_cons,if_pos h97,AC,decide_eq_true_eq]at h;exact⟨h.1,J6 n _ l hn h.2⟩
  ·cases r with
   |nil=>simp[Ef,h97]at h
   |cons d r=>
    simp only[Ef,List.length_cons,if_neg h97,AC]at h;simp only[CE,if_neg h97];exact⟨Gd h.1.1,Gd h.1.2,J6 n r l (by simp at hn;omega) h.2⟩
def L5(p:Pat):Bool:=decide (p.letters.length≤8)&&
 (decide (p.kind=1∨p.kind=6∨p.kind=8)&&p.letters.all GS||
 (decide (p.kind=5)&&decide (p.letters.length=3)&&p.letters.all GS||
 (decide (p.kind=2∨p.kind=3∨p.kind=4)&&Ef p.letters 2||decide (p.kind=7)&&Ef p.letters 4)))
theorem W0{p:Pat}(h:L5 p=true):p.Fit∧p.letters.length≤8:=by
 unfold L5 at h;simp only[Bool.or_eq_true,AC,decide_eq_true_eq,jzy]at h;obtain⟨h8,h⟩:=h;refine⟨⟨by omega,?_⟩,h8⟩
 rcases h with h|h|h|h
 ·exact .inl ⟨h.1,fun c hc=>Gd (h.2 c hc)⟩
 ·obtain⟨c1,c2,c3,e⟩:=Hx h.1.2
  exact .inr (.inl ⟨h.1.1,c1,c2,c3,e,Gd (h.2 c1 (by simp[e])),Gd (h.2 c2 (by simp[e])),Gd (h.2 c3 (by simp[e]))⟩)
 ·exact .inr (.inr (.inl ⟨h.1,fun u v=>J6 _ _ [u,v] (Az _) h.2⟩))
 ·exact .inr (.inr (.inr ⟨h.1,fun u v w z=>J6 _ _ [u,v,w,z] (Az _) h.2⟩))
def okB(p:Pat):Bool:=decide (p.letters≠[])&&decide (p.letters.length≤8)&&p.letters.all NJ&&decide (0≤p.n)&&decide (p.n≤1000)
theorem Jg{p:Pat}(h:okB p=true):p.Ok∧p.letters.length≤8∧0≤p.n∧p.n≤1000:=by
 unfold okB at h;simp only[AC,decide_eq_true_eq,jzy]at h;obtain⟨⟨⟨⟨h1,h2⟩,h3⟩,h4⟩,h5⟩:=h;exact⟨⟨h1,by omega,fun c hc=>jgZ (h3 c hc)⟩,h2,h4,h5⟩
def K8(r:Rul):Bool:=r.prem.all L5&&r.guards.all okB&&r.concl.all okB&&decide (r.prem.length≤3)&&decide (r.concl.length≤10)&&decide (r.guards.length≤10)
theorem Pj{r:Rul}(h:K8 r=true):r.Good:=by
 unfold K8 at h;simp only[AC,decide_eq_true_eq,jzy]at h;obtain⟨⟨⟨⟨⟨h1,h2⟩,h3⟩,h4⟩,h5⟩,h6⟩:=h;exact⟨fun p hp=>W0 (h1 p hp),fun p hp=>⟨(Jg (h2 p hp)).1,(Jg (h2 p hp)).2.1⟩,fun p hp=>⟨(Jg (h3 p hp)).1,(Jg (h3 p hp)).2.2⟩,h4,h5,h6⟩
theorem ZH: ∀n:Fin 29,K8 (Bw n)=true:=by decide+kernel
theorem Zr(n:Nat):(Bw n).Good:=by
 by_cases h:n<29
 ·exact Pj (ZH ⟨n,h⟩)
 ·rw[UF n (by omega)]
  exact Pj (by decide)
theorem Lh(n:Int):(rulT n).Good:=by
 obtain⟨h1,h2,h3,h4,h5,h6⟩:=Zr n.toNat
 exact⟨h1,h2,h3,h4,h5,h6⟩
end Go.Va
namespace Go.Va
open Int (natCast_add natCast_mul natCast_emod natCast_ediv natCast_pow)
open Go.Proofs Go.Shelf Go.RowKit Go.Lib Go.Sort
theorem jd5(a b:Fnd)(ha:a.fact.Rt)(hb:b.fact.Rt):CallsF Tryz.prog 199 [.agg a.ds,.agg b.ds] (.u (.c (.d (.int .i64 (Gl a b))))):=by
 have k:=Jl a.fact b.fact ha.mild hb.mild ha.num hb.num;unfold Gl;simp only[Fct.ds,Fnd.ds]at*;refine Ak (T:=tb) Ah mixed Tryz.func199 rfl (by decide) (Af rfl) rfl ?_;unfold St.init
 simp -implicitDefEqProofs[jJ,-natCast_add,-natCast_mul]
 (first|refine Ab k ?_|refine Aa k ?_)
 simp -implicitDefEqProofs[jJ,-natCast_add,-natCast_mul]
theorem isCmp_N:IsCmp (fun x:Fnd=>x.fact.Num) Gl:=⟨fun x y hx hy=>isCmp_F.rng _ _ hx hy,fun x y hx hy=>isCmp_F.anti _ _ hx hy,fun x y z hx hy hz=>isCmp_F.tr _ _ _ hx hy hz⟩
theorem XB(i:Nat)(l:List Fnd)(app:Bool)(hl:l.length≤1099511627776)(hr:FndOk l):
  DZ Tryz.prog 198 [.c (.sl i 0 l.length),.c (.d (.fn 199 []))] [(i,.row 6 (l.flatMap Fnd.ds) app)] [(i,.row 6 ((Dp Gl l).flatMap Fnd.ds) app)] (.tup []):=by
 have hnd: ∀x y,x∈l→y∈l→Gl x y=0→x=y:=by
  intro x y hx hy h;have e:x.fact=y.fact:=(K0 (hr.rt x hx) (hr.rt y hy)).1 h;obtain⟨i,hi,rfl⟩:=List.mem_iff_getElem.1 hx;obtain⟨j,hj,rfl⟩:=List.mem_iff_getElem.1 hy;have hp:=List.pairwise_iff_getElem.1 hr.nd;rcases Nat.lt_trichotomy i j with h1|h1|h1
  ·exact absurd e (hp i j hi hj h1)
  ·subst h1;rfl
  ·exact absurd e.symm (hp j i hj hi h1)
 exact Rf (P:=fun x=>x∈l) (by omega) Fnd.ds_len ⟨fun x y hx hy=>isCmp_N.rng x y (hr.rt x hx).num (hr.rt y hy).num,fun x y hx hy=>isCmp_N.anti x y (hr.rt x hx).num (hr.rt y hy).num,fun x y z hx hy hz=>isCmp_N.tr x y z (hr.rt x hx).num (hr.rt y hy).num (hr.rt z hz).num⟩
  (fun x hx=>(K0 (hr.rt x hx) (hr.rt x hx)).2 rfl) hnd Tryz.laysSF rfl ⟨_,Tryz.func198,rfl,by decide⟩ Tryz.isAgg169 Tryz.sizeOf169 199
  (enters_of Tryz.func199 (by kernel_rfl) rfl) (fun x y hx hy=>jd5 x y (hr.rt x hx) (hr.rt y hy)) i l app hl (fun f hf=>hf)
theorem T8:CallsF Tryz.prog 198 [.c (.slice 0 []),.c (.fn 199 [])] (.tup []):=by
 refine⟨⟨_,Tryz.func198,rfl,by decide⟩,fun w Z vals hZ hv=> ?_⟩
 obtain⟨v,v2,rfl⟩: ∃v v2,vals=[v,v2]:=by
  have:=hv.1
  match vals,this with
  |[v,v2],_=>exact⟨v,v2,rfl⟩
 obtain⟨p,cap,rfl⟩: ∃p cap,v= .slice p 0 cap:=by
  have h:RepD w Z (.slice 0 []) v:=hv.2 0 _ v rfl rfl;cases h with
  |slice n cs a c vs=>exact⟨some a,c,rfl⟩
  |snil=>exact⟨none,0,rfl⟩
 have hcon:=AnyF.slices_SortFunc_none Tryz.laysSF p cap v2 w;refine Calls.mono hcon fun e w' ⟨he,hw⟩=> ?_
 subst hw;refine⟨_,he,Ext.refl _,by simp[R.rows],⟨0,0,0,0,true,true,true⟩,fun ad h=>(by cases h.1),fun k=> ?_⟩
 have hρ: ∀i,BE k [] (⟨0,0,0,0,true,true,true⟩:Own) i=none:=fun i=>rfl
 exact⟨⟨[],rfl,by simp[R.imp],fun j x v hx=>by simp[R.imp]at hx⟩,⟨⟨fun j o hj=>by(rw[R.rows,List.flatMap_nil,hρ]at hj;cases hj),fun j j' o o' hj=>by(rw[R.rows,List.flatMap_nil,hρ]at hj;cases hj),fun j o hj=>by(rw[R.rows,List.flatMap_nil,hρ]at hj;cases hj)⟩,fun i b hb=>by cases hb⟩⟩
end Go.Va
