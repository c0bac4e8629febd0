/- a part of the proof -/
import Derived.Test.YtkfdniccmcolgaaGreatWbs
import Derived.Test.YtkfdniccmcolgaaGreatWbv
import Derived.Test.YtkfdniccmcolgaaGreatWbp
set_option linter.all false
set_option maxHeartbeats 4000000
set_option maxRecDepth 10000
namespace Go.Va
open Int (natCast_add natCast_mul natCast_emod natCast_ediv natCast_pow)
open Go.Proofs
def Pq:List (List Nat):=(Aj [0,0,3,7,0,31,63])
@[simp]def WZ:List Seg:=[.any [] [] (Ao [[0],[7],[18,19],[20],[3]]),.one,.one]
def H6:List (List Nat):=(Aj [0,0,3,7,0,0,48,112,255])
@[simp]def Ir:List Seg:=[.any [] [] (Ao [[8],[9],[35,36],[37],[8],[10],[39,40],[41]]),.one]
def KY:List (List Nat):=(Aj [0,0,3,7,0,0,48,112,255])
@[simp]def Kk:List Seg:=[.any [] [] (Ao [[8],[9],[44,45],[46],[8],[10],[48,49],[50]]),.one]
@[simp high]theorem jff(l:List RPat):(l.flatMap RPat.ds).length=l.length*4:=EO RPat.ds_len l
@[simp]theorem ji0(l:List RPat):lenC (.d (Bg l))=some l.length:=rfl
@[simp]theorem jid(l:List RPat):D.flat (Bg l)=false:=rfl
@[simp]theorem jh8(h:List (Nat×Blk))(i:Int)(l:List RPat):idxSl h 4 i (.d (Bg l))=if 0≤i∧i<l.length then some (.d (.ref ((l.drop i.toNat).flatMap RPat.ds))) else none:=by
 unfold Bg idxSl;simp only[jff,and_true,DZ RPat.ds_len]
theorem OM{l:List RPat}{i:Nat}(h:i<l.length):(l.drop i).flatMap RPat.ds= .int .i64 l[i].kind:: .str (bs l[i].letters):: .bool l[i].seg:: .int .i64 l[i].num::(l.drop (i+1)).flatMap RPat.ds:=by
 rw[AD h];rfl
@[simp]theorem flat_i64(x:Int):(i64 x).flat=true:=rfl
theorem Iq{b:List Int}{j:Nat}(x:Int)(h:j<b.length):splice j [D.int .i64 x] (b.map i64)=(b.set j x).map i64:=by
 rw[Na (by simpa using h),List.map_set]
 rfl
theorem TE: ∀(m:Nat) (a:List Int) (j k:Nat) (b:List Int),CA m a j k=some b→b.length=a.length
 |0,a,j,k,b,h=>by cases h;rfl
 |m+1,a,j,k,b,h=>by
  rw[CA]at h
  split at h
  ·cases h
  ·rw[TE m _ j (k+1) b h]
   split<;>simp
theorem LJ(f:Grd): ∀l:List Grd,(Bf l f).length≤l.length+1
 |[]=>by simp[Bf]
 |a::l=>by
  have ih:=LJ f l;unfold Bf;split
  ·simp;omega
  ·split<;>simp
def Grd.In(g:Grd):Prop:=g.Short∧ -1000≤g.kind∧g.kind≤1000
theorem P8(q:RPat)(n:Nmz):(argsR q n).length≤2*q.letters.length:=by
 rw[←UM]
 exact VP q n _
theorem jcd(ps:List RPat)(n:Nmz)(hn:n.Ok)(hc: ∀q∈ps,(∀c∈q.letters,97≤c.toNat∧c.toNat<123)∧q.letters.length≤1000∧ -1000≤q.kind∧q.kind≤1000)(hl:ps.length≤1000):
  CallsF Tryz.prog 123 [.c (Bg ps),.agg n.ds] (.tup [.c (.d (grdsD (CB ps n []).1)),.c (.d (.bool (CB ps n []).2))]):=by
 generalize hM:CB ps n []=M;refine Ae (T:=tb) Ad mixed Tryz.func123 rfl (by decide) (Ac rfl) rfl ?_;unfold St.init
 simp -implicitDefEqProofs[jJ,-natCast_add,-natCast_mul,-List.map_set,-List.reduceReplicate];refine Av (fun x:Nat×Option (List Grd)=>match x with
   |(i,none)=>⟨[(7,vI .i64 i),(6,vC (.sl 6 0 0)),(3,vC (.ptr 3 0)),(0,vC (.d (Bg ps)))],[(6,.row 2 [] true),(3,.box n.cs)]⟩
   |(i,some o)=>⟨[(7,vI .i64 i),(6,vC (.d (grdsD o))),(3,vC (.ptr 3 0)),(0,vC (.d (Bg ps)))],[(3,.box n.cs)]⟩)
  (fun x=>x.1≤ps.length∧(x.2.getD []).length≤x.1∧(∀g∈x.2.getD [],g.In)∧CB (ps.drop x.1) n (x.2.getD [])=M) (fun x=>ps.length - x.1) (0,none) (by simp) ⟨by omega,by simp,by simp,hM⟩ ?_
 rintro⟨i,o⟩ ⟨h1,h2,h3,h4⟩
 simp only at h1 h2 h3 h4;by_cases h:i<ps.length
 ·obtain⟨c1,c2,c3,c4⟩:=hc ps[i] (Ak h)
  have ka:=Q7 ps[i] n hn c1 c2;have kl:=P8 ps[i] n;have e2:=OM h;rw[AD h,CB]at h4;simp only[RPat.ds]at ka;generalize argsR ps[i] n=a0 at*;cases o with
  |none=>
   simp only[Option.getD_none]at h2 h3 h4;simp -implicitDefEqProofs[jJ,-natCast_add,-natCast_mul,-List.map_set,-List.reduceReplicate,h];refine Af Pq WZ (by rfl) ?_
   simp -implicitDefEqProofs[jJ,-natCast_add,-natCast_mul,-List.map_set,-List.reduceReplicate,h,e2];refine Aa ka ?_;simp -implicitDefEqProofs[jJ,-natCast_add,-natCast_mul,-List.map_set,-List.reduceReplicate];refine Av (fun x:Nat×List Int=>⟨[(9,vI .i64 x.1),(8,vC (.sl 23 0 a0.length)),(7,vI .i64 i),(6,vC (.sl 6 0 0)),(3,vC (.ptr 3 0)),(0,vC (.d (Bg ps)))],[(23,.row 1 (x.2.map i64) true),(6,.row 2 [] true),(3,.box n.cs)]⟩)
    (fun x=>x.1≤a0.length∧x.2.length=a0.length∧Dj (a0.length - x.1) x.2 x.1=FG a0) (fun x=>a0.length - x.1) (0,a0) (by simp[An,lk,St.le,vI,vC]) ⟨by omega,rfl,rfl⟩ ?_
   rintro⟨j,a⟩ ⟨q1,q2,q3⟩
   simp only at q1 q2 q3;by_cases hj:j<a0.length
   ·rw[show a0.length - j=(a0.length - (j+1))+1 by omega,Dj]at q3
    simp -implicitDefEqProofs[jJ,-natCast_add,-natCast_mul,-List.map_set,-List.reduceReplicate,hj];refine Av (fun x:Nat×List Int=>⟨[(10,vI .i64 x.1),(9,vI .i64 j),(8,vC (.sl 23 0 a0.length)),(7,vI .i64 i),(6,vC (.sl 6 0 0)),(3,vC (.ptr 3 0)),(0,vC (.d (Bg ps)))],[(23,.row 1 (x.2.map i64) true),(6,.row 2 [] true),(3,.box n.cs)]⟩)
     (fun x=>x.1≤j∧x.2.length=a0.length∧CA (j - x.1) x.2 j x.1=CA j a j 0) (fun x=>j - x.1) (0,a) (by simp[An,lk,St.le,vI,vC]) ⟨by omega,q2,rfl⟩ ?_
    rintro⟨k,b⟩ ⟨r1,r2,r3⟩
    simp only at r1 r2 r3;by_cases hk:k<j
    ·rw[show j - k=(j - (k+1))+1 by omega,CA]at r3
     have hjb:j<b.length:=by omega
     have hkb:k<b.length:=by omega
     have hka:k<a0.length:=by omega
     rw[Ff _ hjb,Ff _ hkb]at r3
     by_cases e0:b[j]=b[k]
     ·rw[if_pos e0]at r3
      rw[←r3]at q3
      simp only at q3;rw[←q3]at h4;simp only at h4;subst h4;simp -implicitDefEqProofs[jJ,-natCast_add,-natCast_mul,-List.map_set,-List.reduceReplicate,hk];refine Af H6 Ir (by rfl) ?_
      simp -implicitDefEqProofs[jJ,-natCast_add,-natCast_mul,-List.map_set,-List.reduceReplicate,hk,hj,hjb,hkb,hka,e0,i64];rfl
     ·rw[if_neg e0]at r3
      by_cases e1:b[j]<b[k]
      ·rw[if_pos e1]at r3
       simp -implicitDefEqProofs[jJ,-natCast_add,-natCast_mul,-List.map_set,-List.reduceReplicate,hk];refine Af H6 Ir (by rfl) ?_
       simp -implicitDefEqProofs[jJ,-natCast_add,-natCast_mul,-List.map_set,-List.reduceReplicate,hk,hj,hjb,hkb,hka,e0,i64];refine Af KY Kk (by rfl) ?_
       simp -implicitDefEqProofs[jJ,-natCast_add,-natCast_mul,-List.map_set,-List.reduceReplicate,hk,hj,hjb,hkb,hka,e1,i64];refine⟨by omega,by rw[Iq _ hjb];simp;omega,by omega,k+1,_,⟨rfl,by rw[Iq _ hjb,Iq _ (by simpa using hkb)]⟩,⟨by omega,by simp;omega,r3⟩,by omega⟩
      ·rw[if_neg e1]at r3
       simp -implicitDefEqProofs[jJ,-natCast_add,-natCast_mul,-List.map_set,-List.reduceReplicate,hk];refine Af H6 Ir (by rfl) ?_
       simp -implicitDefEqProofs[jJ,-natCast_add,-natCast_mul,-List.map_set,-List.reduceReplicate,hk,hj,hjb,hkb,hka,e0,i64];refine Af KY Kk (by rfl) ?_
       simp -implicitDefEqProofs[jJ,-natCast_add,-natCast_mul,-List.map_set,-List.reduceReplicate,hk,hj,hjb,hkb,hka,e1,i64];exact⟨by omega,k+1,b,⟨rfl,rfl⟩,⟨by omega,r2,r3⟩,by omega⟩
    ·have hkj:k=j:=by omega
     subst hkj;rw[Nat.sub_self,CA]at r3;rw[←r3]at q3;simp only at q3;simp -implicitDefEqProofs[jJ,-natCast_add,-natCast_mul,-List.map_set,-List.reduceReplicate,hk];exact⟨by omega,k+1,b,⟨rfl,rfl⟩,⟨by omega,r2,q3⟩,by omega⟩
   ·have hj2:j=a0.length:=by omega
    subst hj2;rw[Nat.sub_self,Dj]at q3;rw[←q3]at h4;simp only at h4;have sh:(Grd.mk ps[i].kind a).Short:=by unfold Grd.Short;simp only;omega
    have kp:=Nr ⟨ps[i].kind,a⟩ [] sh (by simp) (by simp) (by simp)
    rw[show grdsD []=D.slice 0 [] from rfl]at kp
    have pin: ∀g∈Bf [] ⟨ps[i].kind,a⟩,g.In:=fun g hg=>by
     rw[It]at hg
     rcases hg with rfl|hg
     ·exact⟨sh,c3,c4⟩
     ·cases hg
    have pl:(Bf [] (Grd.mk ps[i].kind a)).length≤i+1:=by simp[Bf]
    simp only[Grd.ds]at kp;rw[←q2];simp -implicitDefEqProofs[jJ,-natCast_add,-natCast_mul,-List.map_set,-List.reduceReplicate,h,e2];refine Aa kp ?_;simp -implicitDefEqProofs[jJ,-natCast_add,-natCast_mul,-List.map_set,-List.reduceReplicate];exact⟨by omega,i+1,some (Bf [] ⟨ps[i].kind,a⟩),by simp[An,lk],⟨by omega,pl,pin,h4⟩,by omega⟩
  |some o=>
   simp only[Option.getD_some]at h2 h3 h4;simp -implicitDefEqProofs[jJ,-natCast_add,-natCast_mul,-List.map_set,-List.reduceReplicate,h];refine Af Pq WZ (by rfl) ?_
   simp -implicitDefEqProofs[jJ,-natCast_add,-natCast_mul,-List.map_set,-List.reduceReplicate,h,e2];refine Aa ka ?_;simp -implicitDefEqProofs[jJ,-natCast_add,-natCast_mul,-List.map_set,-List.reduceReplicate];refine Av (fun x:Nat×List Int=>⟨[(9,vI .i64 x.1),(8,vC (.sl 23 0 a0.length)),(7,vI .i64 i),(6,vC (.d (grdsD o))),(3,vC (.ptr 3 0)),(0,vC (.d (Bg ps)))],[(23,.row 1 (x.2.map i64) true),(3,.box n.cs)]⟩)
    (fun x=>x.1≤a0.length∧x.2.length=a0.length∧Dj (a0.length - x.1) x.2 x.1=FG a0) (fun x=>a0.length - x.1) (0,a0) (by simp[An,lk,St.le,vI,vC]) ⟨by omega,rfl,rfl⟩ ?_
   rintro⟨j,a⟩ ⟨q1,q2,q3⟩
   simp only at q1 q2 q3;by_cases hj:j<a0.length
   ·rw[show a0.length - j=(a0.length - (j+1))+1 by omega,Dj]at q3
    simp -implicitDefEqProofs[jJ,-natCast_add,-natCast_mul,-List.map_set,-List.reduceReplicate,hj];refine Av (fun x:Nat×List Int=>⟨[(10,vI .i64 x.1),(9,vI .i64 j),(8,vC (.sl 23 0 a0.length)),(7,vI .i64 i),(6,vC (.d (grdsD o))),(3,vC (.ptr 3 0)),(0,vC (.d (Bg ps)))],[(23,.row 1 (x.2.map i64) true),(3,.box n.cs)]⟩)
     (fun x=>x.1≤j∧x.2.length=a0.length∧CA (j - x.1) x.2 j x.1=CA j a j 0) (fun x=>j - x.1) (0,a) (by simp[An,lk,St.le,vI,vC]) ⟨by omega,q2,rfl⟩ ?_
    rintro⟨k,b⟩ ⟨r1,r2,r3⟩
    simp only at r1 r2 r3;by_cases hk:k<j
    ·rw[show j - k=(j - (k+1))+1 by omega,CA]at r3
     have hjb:j<b.length:=by omega
     have hkb:k<b.length:=by omega
     have hka:k<a0.length:=by omega
     rw[Ff _ hjb,Ff _ hkb]at r3
     by_cases e0:b[j]=b[k]
     ·rw[if_pos e0]at r3
      rw[←r3]at q3
      simp only at q3;rw[←q3]at h4;simp only at h4;subst h4;simp -implicitDefEqProofs[jJ,-natCast_add,-natCast_mul,-List.map_set,-List.reduceReplicate,hk];refine Af H6 Ir (by rfl) ?_
      simp -implicitDefEqProofs[jJ,-natCast_add,-natCast_mul,-List.map_set,-List.reduceReplicate,hk,hj,hjb,hkb,hka,e0,i64];rfl
     ·rw[if_neg e0]at r3
      by_cases e1:b[j]<b[k]
      ·rw[if_pos e1]at r3
       simp -implicitDefEqProofs[jJ,-natCast_add,-natCast_mul,-List.map_set,-List.reduceReplicate,hk];refine Af H6 Ir (by rfl) ?_
       simp -implicitDefEqProofs[jJ,-natCast_add,-natCast_mul,-List.map_set,-List.reduceReplicate,hk,hj,hjb,hkb,hka,e0,i64];refine Af KY Kk (by rfl) ?_
       simp -implicitDefEqProofs[jJ,-natCast_add,-natCast_mul,-List.map_set,-List.reduceReplicate,hk,hj,hjb,hkb,hka,e1,i64];refine⟨by omega,by rw[Iq _ hjb];simp;omega,by omega,k+1,_,⟨rfl,by rw[Iq _ hjb,Iq _ (by simpa using hkb)]⟩,⟨by omega,by simp;omega,r3⟩,by omega⟩
      ·rw[if_neg e1]at r3
       simp -implicitDefEqProofs[jJ,-natCast_add,-natCast_mul,-List.map_set,-List.reduceReplicate,hk];refine Af H6 Ir (by rfl) ?_
       simp -implicitDefEqProofs[jJ,-natCast_add,-natCast_mul,-List.map_set,-List.reduceReplicate,hk,hj,hjb,hkb,hka,e0,i64];refine Af KY Kk (by rfl) ?_
       simp -implicitDefEqProofs[jJ,-natCast_add,-natCast_mul,-List.map_set,-List.reduceReplicate,hk,hj,hjb,hkb,hka,e1,i64];exact⟨by omega,k+1,b,⟨rfl,rfl⟩,⟨by omega,r2,r3⟩,by omega⟩
    ·have hkj:k=j:=by omega
     subst hkj;rw[Nat.sub_self,CA]at r3;rw[←r3]at q3;simp only at q3;simp -implicitDefEqProofs[jJ,-natCast_add,-natCast_mul,-List.map_set,-List.reduceReplicate,hk];exact⟨by omega,k+1,b,⟨rfl,rfl⟩,⟨by omega,r2,q3⟩,by omega⟩
   ·have hj2:j=a0.length:=by omega
    subst hj2;rw[Nat.sub_self,Dj]at q3;rw[←q3]at h4;simp only at h4;have sh:(Grd.mk ps[i].kind a).Short:=by unfold Grd.Short;simp only;omega
    have kp:=Nr ⟨ps[i].kind,a⟩ o sh (fun g hg=>(h3 g hg).1) (fun g hg=> .inr ⟨(h3 g hg).2.1,(h3 g hg).2.2,c3,c4⟩) (by omega)
    have pin: ∀g∈Bf o ⟨ps[i].kind,a⟩,g.In:=fun g hg=>by
     rw[It]at hg
     rcases hg with rfl|hg
     ·exact⟨sh,c3,c4⟩
     ·exact h3 g hg
    have pl:=LJ ⟨ps[i].kind,a⟩ o;simp only[Grd.ds]at kp;rw[←q2];simp -implicitDefEqProofs[jJ,-natCast_add,-natCast_mul,-List.map_set,-List.reduceReplicate,h,e2];refine Aa kp ?_;simp -implicitDefEqProofs[jJ,-natCast_add,-natCast_mul,-List.map_set,-List.reduceReplicate];exact⟨by omega,i+1,some _,by simp[An,lk],⟨by omega,Nat.le_trans pl (by omega),pin,h4⟩,by omega⟩
 ·have hi2:i=ps.length:=by omega
  subst hi2;rw[List.drop_length,CB]at h4;subst h4;cases o with
  |none=>
   simp -implicitDefEqProofs[jJ,-natCast_add,-natCast_mul,-List.map_set,-List.reduceReplicate];rfl
  |some o=>simp -implicitDefEqProofs[jJ,-natCast_add,-natCast_mul,-List.map_set,-List.reduceReplicate]
def Vj:List (List Nat):=(Aj [0,1,3,0,8,24,63,0,128,384,0,1024,3072,8191,16383,32767])
@[simp]def T6:List Seg:=[.any [] [] (Ao [[5],[20],[21],[5],[23],[24],[22,25],[5],[27],[28],[5],[30],[31]]),.one,.one,.one]
def EF(l:List (List Int)):D:= .slice l.length (l.map intsD)
@[simp]theorem lenC_iis(l:List (List Int)):lenC (.d (EF l))=some l.length:=rfl
@[simp]theorem flat_iis(l:List (List Int)):D.flat (EF l)=false:=rfl
@[simp]theorem jiT(h:List (Nat×Blk))(i:Int)(l:List (List Int)):idxSl h 1 i (.d (EF l))=if 0≤i∧i<l.length then some (.d (.ref ((l.drop i.toNat).map intsD))) else none:=by
 unfold EF idxSl;simp[List.map_drop]
theorem RO(f:Fct)(hf:f.Rt):CallsF Tryz.prog 219 [.agg f.ds] (.u (.c (.d (EF (linesR f))))):=by
 obtain⟨h1,h2,h3,h4⟩:=hf.parts
 obtain⟨k,l,n,m,d⟩:=f
 simp only at h1 h2 h3;clear hf h4;by_cases k2:k=2
 ·subst k2;obtain⟨a,b,c,e,rfl⟩:=By (by rw[h2];rfl:l.length=4)
  have a1:=Dw a b (h3 a (by simp)) (h3 b (by simp))
  have a2:=Dw c e (h3 c (by simp)) (h3 e (by simp))
  have eR:linesR ⟨2,[a,b,c,e],n,m,d⟩=[[atomN a b,atomN c e],[atomN c e,atomN a b]]:=rfl
  rw[eR]
  clear h1 h2 h3 eR;generalize atomN a b=s at*;generalize atomN c e=t at*;simp only[Fct.ds];refine Ae (T:=tb) Ad mixed Tryz.func219 rfl (by decide) (Ac rfl) rfl ?_;unfold St.init
  simp -implicitDefEqProofs[jJ,-natCast_add,-natCast_mul,-natCast_emod,-natCast_ediv,-natCast_pow];refine Af (Aj [0,1,3,0,8,24,63,0,128,384,0,1024,3072,8191,16383,32767]) [.any [] [] (Ao [[3],[15],[16],[3],[18],[19],[17,20],[3],[22],[23],[3],[25],[26]]),.one,.one,.one] (by rfl) ?_
  simp -implicitDefEqProofs[jJ,-natCast_add,-natCast_mul,-natCast_emod,-natCast_ediv,-natCast_pow,i64];refine Al a1 ?_;simp -implicitDefEqProofs[jJ,-natCast_add,-natCast_mul,-natCast_emod,-natCast_ediv,-natCast_pow,i64];refine Aa a2 ?_;simp -implicitDefEqProofs[jJ,-natCast_add,-natCast_mul,-natCast_emod,-natCast_ediv,-natCast_pow,i64];rfl
 by_cases k1:k=1
 ·subst k1;obtain⟨a,b,c,rfl⟩:=Da (by rw[h2];rfl:l.length=3)
  have a1:=Dw a b (h3 a (by simp)) (h3 b (by simp))
  have a2:=Dw a c (h3 a (by simp)) (h3 c (by simp))
  have a3:=Dw b c (h3 b (by simp)) (h3 c (by simp))
  have eR:linesR ⟨1,[a,b,c],n,m,d⟩=[[atomN a b,atomN a c],[atomN a c,atomN a b],[atomN a b,atomN b c],[atomN b c,atomN a b],[atomN a c,atomN b c],[atomN b c,atomN a c]]:=rfl
  rw[eR]
  clear h1 h2 h3 eR;generalize atomN a b=s at*;generalize atomN a c=t at*;generalize atomN b c=u at*;simp only[Fct.ds];refine Ae (T:=tb) Ad mixed Tryz.func219 rfl (by decide) (Ac rfl) rfl ?_;unfold St.init
  simp -implicitDefEqProofs[jJ,-natCast_add,-natCast_mul,-natCast_emod,-natCast_ediv,-natCast_pow];refine Af (Aj [0,1,3,0,8,24,63,0,128,384,0,1024,3072,8191,0,16384,49152,0,131072,393216,1048575,2097151,4194303,8388607]) [.any [] [] (Ao [[3],[38],[39],[3],[41],[42],[40,43],[3],[45],[46],[3],[48],[49],[47,50],[3],[52],[53],[3],[55],[56]]),.one,.one,.one,.one] (by rfl) ?_
  simp -implicitDefEqProofs[jJ,-natCast_add,-natCast_mul,-natCast_emod,-natCast_ediv,-natCast_pow,i64];refine Al a1 ?_;simp -implicitDefEqProofs[jJ,-natCast_add,-natCast_mul,-natCast_emod,-natCast_ediv,-natCast_pow,i64];refine Al a2 ?_;simp -implicitDefEqProofs[jJ,-natCast_add,-natCast_mul,-natCast_emod,-natCast_ediv,-natCast_pow,i64];refine Aa a3 ?_;simp -implicitDefEqProofs[jJ,-natCast_add,-natCast_mul,-natCast_emod,-natCast_ediv,-natCast_pow,i64];rfl
 ·have eR:linesR ⟨k,l,n,m,d⟩=[]:=by unfold linesR;rw[if_neg k2,if_neg k1]
  rw[eR]
  simp only[Fct.ds];refine Ae (T:=tb) Ad mixed Tryz.func219 rfl (by decide) (Ac rfl) rfl ?_;unfold St.init
  simp -implicitDefEqProofs[jJ,-natCast_add,-natCast_mul,-natCast_emod,-natCast_ediv,-natCast_pow,k2,k1,EF]
theorem jco(f:Fct)(hf:f.Rt)(k:Int)(hk:k=2∨k=3∨k=4∨k=7):CallsF Tryz.prog 126 [.agg f.ds,.c (.int .i64 k)] (.u (.c (.d (EF (De f k))))):=by
 by_cases k2:k=2
 ·subst k2;have q:=RO f hf;rw[show De f 2=linesR f from rfl]
  generalize linesR f=L at*;simp only[Fct.ds]at*;refine Ae (T:=tb) Ad mixed Tryz.func126 rfl (by decide) (Ac rfl) rfl ?_;unfold St.init
  simp -implicitDefEqProofs[jJ,-natCast_add,-natCast_mul,-natCast_emod,-natCast_ediv,-natCast_pow];refine Aa q ?_;simp -implicitDefEqProofs[jJ,-natCast_add,-natCast_mul,-natCast_emod,-natCast_ediv,-natCast_pow]
 obtain⟨h1,h2,h3,h4⟩:=hf.parts
 obtain⟨fk,l,n,m,d⟩:=f
 simp only at h1 h2 h3;clear hf h4;by_cases hke:fk=k
 ·subst hke;by_cases k7:fk=7
  ·subst k7;obtain⟨a,b,c,e,a',b',c',e',rfl⟩:=E4 (by rw[h2];rfl:l.length=8)
   have a1:=Dw a b (h3 a (by simp)) (h3 b (by simp))
   have a2:=Dw c e (h3 c (by simp)) (h3 e (by simp))
   have a3:=Dw a' b' (h3 a' (by simp)) (h3 b' (by simp))
   have a4:=Dw c' e' (h3 c' (by simp)) (h3 e' (by simp))
   have eR:De ⟨7,[a,b,c,e,a',b',c',e'],n,m,d⟩ 7=[[atomN a b,atomN c e,atomN a' b',atomN c' e'],[atomN a b,atomN a' b',atomN c e,atomN c' e'],[atomN c' e',atomN c e,atomN a' b',atomN a b],[atomN c' e',atomN a' b',atomN c e,atomN a b],[atomN c e,atomN a b,atomN c' e',atomN a' b'],[atomN c e,atomN c' e',atomN a b,atomN a' b'],[atomN a' b',atomN a b,atomN c' e',atomN c e],[atomN a' b',atomN c' e',atomN a b,atomN c e]]:=rfl
   rw[eR]
   clear h1 h2 h3 eR;generalize atomN a b=s at*;generalize atomN c e=t at*;generalize atomN a' b'=u at*;generalize atomN c' e'=v at*;simp only[Fct.ds];refine Ae (T:=tb) Ad mixed Tryz.func126 rfl (by decide) (Ac rfl) rfl ?_;unfold St.init
   simp -implicitDefEqProofs[jJ,-natCast_add,-natCast_mul,-natCast_emod,-natCast_ediv,-natCast_pow];refine Af Vj T6 (by rfl) ?_
   simp -implicitDefEqProofs[jJ,-natCast_add,-natCast_mul,-natCast_emod,-natCast_ediv,-natCast_pow,i64];refine Al a1 ?_;simp -implicitDefEqProofs[jJ,-natCast_add,-natCast_mul,-natCast_emod,-natCast_ediv,-natCast_pow,i64];refine Aa a2 ?_;simp -implicitDefEqProofs[jJ,-natCast_add,-natCast_mul,-natCast_emod,-natCast_ediv,-natCast_pow,i64];refine Af (Aj [0,1,3,0,8,24,63,0,128,384,0,1024,3072,8191,16383,32767]) [.any [] [] (Ao [[5],[43],[44],[5],[46],[47],[45,48],[5],[50],[51],[5],[53],[54]]),.one,.one,.one] (by rfl) ?_
   simp -implicitDefEqProofs[jJ,-natCast_add,-natCast_mul,-natCast_emod,-natCast_ediv,-natCast_pow,i64];refine Al a3 ?_;simp -implicitDefEqProofs[jJ,-natCast_add,-natCast_mul,-natCast_emod,-natCast_ediv,-natCast_pow,i64];refine Aa a4 ?_;simp -implicitDefEqProofs[jJ,-natCast_add,-natCast_mul,-natCast_emod,-natCast_ediv,-natCast_pow,i64];rfl
  ·obtain⟨a,b,c,e,rfl⟩:=By (by rw[h2];rcases hk with h|h|h|h<;>first|exact absurd h k2|exact absurd h k7|(rw[h];rfl):l.length=4)
   have a1:=Dw a b (h3 a (by simp)) (h3 b (by simp))
   have a2:=Dw c e (h3 c (by simp)) (h3 e (by simp))
   have eR:De ⟨fk,[a,b,c,e],n,m,d⟩ fk=[[atomN a b,atomN c e],[atomN c e,atomN a b]]:=by
    unfold De;rw[if_neg k2,if_neg (by simp)]
    simp[k7]
   rw[eR]
   clear h1 h2 h3 eR hk;generalize atomN a b=s at*;generalize atomN c e=t at*;simp only[Fct.ds];refine Ae (T:=tb) Ad mixed Tryz.func126 rfl (by decide) (Ac rfl) rfl ?_;unfold St.init
   simp -implicitDefEqProofs[jJ,-natCast_add,-natCast_mul,-natCast_emod,-natCast_ediv,-natCast_pow,k2];refine Af Vj T6 (by rfl) ?_
   simp -implicitDefEqProofs[jJ,-natCast_add,-natCast_mul,-natCast_emod,-natCast_ediv,-natCast_pow,i64];refine Al a1 ?_;simp -implicitDefEqProofs[jJ,-natCast_add,-natCast_mul,-natCast_emod,-natCast_ediv,-natCast_pow,i64];refine Aa a2 ?_;simp -implicitDefEqProofs[jJ,-natCast_add,-natCast_mul,-natCast_emod,-natCast_ediv,-natCast_pow,i64,k7];rfl
 ·have eR:De ⟨fk,l,n,m,d⟩ k=[]:=by unfold De;rw[if_neg k2,if_pos hke]
  rw[eR]
  simp only[Fct.ds];refine Ae (T:=tb) Ad mixed Tryz.func126 rfl (by decide) (Ac rfl) rfl ?_;unfold St.init
  simp -implicitDefEqProofs[jJ,-natCast_add,-natCast_mul,-natCast_emod,-natCast_ediv,-natCast_pow,k2,hke,EF]
theorem jak{f:Fct}(hf:f.Rt): ∀l∈linesR f,∃x y,l=[x,y]∧(0≤x∧x<1600)∧0≤y∧y<1600:=by
 have hg:=KG hf;have at_lt: ∀i j,0≤atomN (f.args.getD i 0) (f.args.getD j 0)∧atomN (f.args.getD i 0) (f.args.getD j 0)<1600:=fun i j=>by
  obtain⟨⟨q1,q2⟩,q3,q4⟩:=E7 (hg i) (hg j)
  rw[Fb]
  omega
 intro l hl;unfold linesR at hl;split at hl
 ·simp only[jzn,AM,or_false]at hl;rcases hl with rfl|rfl<;>exact⟨_,_,rfl,at_lt _ _,at_lt _ _⟩
 ·split at hl
  ·simp only[jzn,AM,or_false]at hl;rcases hl with rfl|rfl|rfl|rfl|rfl|rfl<;>exact⟨_,_,rfl,at_lt _ _,at_lt _ _⟩
  ·cases hl
theorem jdp(l:List Int):(EL l).length=4:=rfl
theorem Su(L:List (List Int)):(L.flatMap EL).length=4*L.length:=by
 induction L with
 |nil=>rfl
 |cons a L ih=>rw[List.flatMap_cons,List.length_append,ih,jdp,List.length_cons];omega
theorem Oc(f:Fct):(linesR f).length≤6:=by
 unfold linesR;split
 ·simp
 ·split<;>simp
def turnT(L:List (List Int))(i:Nat):List (List Int):=(L.take i).flatMap EL
theorem jdF(L:List (List Int)){i:Nat}(h:i≤L.length):(turnT L i).length=4*i:=by
 unfold turnT;rw[Su,AG];omega
theorem jhr(L:List (List Int)){i:Nat}(h:i<L.length):turnT L (i+1)=turnT L i++EL L[i]:=by
 unfold turnT;rw[AQ h,List.flatMap_append];simp
theorem jhs(L:List (List Int)):turnT L L.length=L.flatMap EL:=by unfold turnT;rw[AZ]
theorem jb6(f:Fct)(hf:f.Rt):CallsF Tryz.prog 125 [.agg f.ds,.c (.int .i64 2)] (.u (.c (.own 1 (ptsR f 2).length ((ptsR f 2).map intsD)))):=by
 have q:=RO f hf;have ht:=jak hf;have hl:=Oc f;rw[O9];generalize linesR f=L at*;rw[←jhs];have hT:= @jhr L;have hTl:= @jdF L;have hT0:turnT L 0=[]:=rfl;generalize turnT L=T at*;simp only[Fct.ds]at*;clear hf;refine Ae (T:=tb) Ad mixed Tryz.func125 rfl (by decide) (Ac rfl) rfl ?_;unfold St.init
 simp -implicitDefEqProofs[jJ,-natCast_add,-natCast_mul,-natCast_emod,-natCast_ediv,-natCast_pow];refine Aa q ?_;simp -implicitDefEqProofs[jJ,-natCast_add,-natCast_mul,-natCast_emod,-natCast_ediv,-natCast_pow];refine BA [(5,74)] (fun i:Nat=>⟨[(7,vI .i64 i),(6,vC (.d (EF L))),(5,vC (.sl 5 0 (T i).length))],[(5,.row 1 ((T i).map intsD) true)]⟩)
  (fun i=>i≤L.length) (fun i=>L.length - i) 0 (by simp[hT0]) (by omega) ?_
 rintro i hi
 by_cases h:i<L.length
 ·obtain⟨x,y,e,hx,hy⟩:=ht L[i] (Ak h)
  have ed:(L.drop i).map intsD=intsD [x,y]::(L.drop (i+1)).map intsD:=by rw[AD h,List.map_cons,e]
  have es:=hT h;rw[e]at es;have et:EL [x,y]=[[x/40,x%40,y/40,y%40],[x%40,x/40,y/40,y%40],[x/40,x%40,y%40,y/40],[x%40,x/40,y%40,y/40]]:=rfl;rw[et]at es;have t1:x.tdiv 40=x/40:=Int.tdiv_eq_ediv_of_nonneg hx.1;have t2:x.tmod 40=x%40:=Int.tmod_eq_emod_of_nonneg hx.1;have t3:y.tdiv 40=y/40:=Int.tdiv_eq_ediv_of_nonneg hy.1;have t4:y.tmod 40=y%40:=Int.tmod_eq_emod_of_nonneg hy.1;have hlen:=hTl hi;simp -implicitDefEqProofs[jJ,-natCast_add,-natCast_mul,-natCast_emod,-natCast_ediv,-natCast_pow,h];refine Af (Aj [0,0,3,7,15,31,63,0,0,384,896,1920,3968,8064,127,32767]) [.any [] [] (Ao [[6],[7],[24,25],[26],[27],[28],[29],[6],[7],[31,32],[33],[34],[35],[36],[30]]),.one] (by rfl) ?_
  simp -implicitDefEqProofs[jJ,-natCast_add,-natCast_mul,-natCast_emod,-natCast_ediv,-natCast_pow,h,ed,i64,t1,t2];refine⟨by omega,?_⟩
  refine Af (Aj [0,0,3,7,15,31,63,0,0,384,896,1920,3968,8064,127,32767]) [.any [] [] (Ao [[6],[7],[38,39],[40],[41],[42],[43],[6],[7],[45,46],[47],[48],[49],[50],[44]]),.one] (by rfl) ?_
  simp -implicitDefEqProofs[jJ,-natCast_add,-natCast_mul,-natCast_emod,-natCast_ediv,-natCast_pow,h,ed,i64,t3,t4];exact⟨by omega,⟨by omega,by omega⟩,by omega,i+1,⟨⟨rfl,by rw[es];simp⟩,by rw[es,List.map_append];rfl⟩,by omega,by omega⟩
 ·have hi2:i=L.length:=by omega
  subst hi2;simp -implicitDefEqProofs[jJ,-natCast_add,-natCast_mul,-natCast_emod,-natCast_ediv,-natCast_pow]
theorem jht(f:Fct)(hf:f.Rt)(k:Int)(hk:1≤k∧k≤8∧k≠2):CallsF Tryz.prog 125 [.agg f.ds,.c (.int .i64 k)] (.u (.c (.own 1 (ptsR f k).length ((ptsR f k).map intsD)))):=by
 by_cases hke:f.kind=k
 ·rw[Ib hk.2.2 hke]
  have q:CallsF Tryz.prog 220 [.agg f.ds] (.u (.c (.d (fctsD (varL f (Cd f)))))):=by
   obtain⟨A,_,a1,a2,a3,a4,hc⟩:=jcB f hf (by omega)
   have e:Cd f=A:=by
    unfold Cd;split
    ·rename_i h;exact(a1 h).symm
    ·split
     ·rename_i h;exact(a2 h).symm
     ·split
      ·rename_i h;exact(a3 h).symm
      ·exact(a4 (by omega)).symm
   rw[e]
   exact hc
  have hlv:(varL f (Cd f)).length≤1000:=by
   have h1:=Hw ((Cd f).map (BU f)) [];have h2:(Cd f).length≤1000:=by
    have hal:f.args.length≤4∨f.kind=7:=by
     rw[hf.parts.2.1]
     unfold arity;split
     ·simp
     ·split
      ·simp
      ·split
       ·rename_i h;exact .inr h
       ·split<;>simp
    unfold Cd;split
    ·rename_i h
     have hal:f.args.length≤4:=hal.resolve_right (by omega)
     have key: ∀n:Fin 5,(AP n.val).length≤1000:=by decide+kernel
     exact key ⟨_,by omega⟩
    ·split
     ·decide
     ·split
      ·decide+kernel
      ·decide
   unfold varL;simp only[List.length_map,List.length_nil]at h1;omega
  generalize varL f (Cd f)=V at*;simp only[Fct.ds]at*;subst hke;have k2:=hk.2.2;clear hf hk;refine Ae (T:=tb) Ad mixed Tryz.func125 rfl (by decide) (Ac rfl) rfl ?_;unfold St.init
  simp -implicitDefEqProofs[jJ,-natCast_add,-natCast_mul,-natCast_emod,-natCast_ediv,-natCast_pow,k2];refine Aa q ?_;simp -implicitDefEqProofs[jJ,-natCast_add,-natCast_mul,-natCast_emod,-natCast_ediv,-natCast_pow];refine BA [(5,95)] (fun i:Nat=>⟨[(13,vI .i64 i),(12,vC (.d (fctsD V))),(5,vC (.sl 5 0 i))],[(5,.row 1 (((V.take i).map Fct.args).map intsD) true)]⟩)
   (fun i=>i≤V.length) (fun i=>V.length - i) 0 (by simp) (by omega) ?_
  rintro i hi
  by_cases h:i<V.length
  ·have e2:=DO h;simp -implicitDefEqProofs[jJ,-natCast_add,-natCast_mul,-natCast_emod,-natCast_ediv,-natCast_pow,h,e2];refine⟨by omega,⟨by omega,by omega⟩,by omega,i+1,⟨rfl,?_⟩,by omega,by omega⟩
   rw[AQ (by simpa using h),List.getElem_map]
   rfl
  ·have hi2:i=V.length:=by omega
   subst hi2;simp -implicitDefEqProofs[jJ,-natCast_add,-natCast_mul,-natCast_emod,-natCast_ediv,-natCast_pow]
 ·rw[HO hk.2.2 hke]
  have k2:=hk.2.2;simp only[Fct.ds];refine Ae (T:=tb) Ad mixed Tryz.func125 rfl (by decide) (Ac rfl) rfl ?_;unfold St.init
  simp -implicitDefEqProofs[jJ,-natCast_add,-natCast_mul,-natCast_emod,-natCast_ediv,-natCast_pow,k2,hke]
end Go.Va
