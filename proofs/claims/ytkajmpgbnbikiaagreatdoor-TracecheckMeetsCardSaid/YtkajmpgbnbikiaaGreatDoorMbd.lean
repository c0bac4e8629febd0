/- a part of the proof -/
import Derived.Test.YtkajmpgbnbikiaaGreatDoorMam
import Derived.Test.YtkajmpgbnbikiaaGreatDoorMbc
set_option linter.all false
set_option maxHeartbeats 4000000
set_option maxRecDepth 10000
namespace Go.Va
open Int (natCast_add natCast_mul natCast_emod natCast_ediv natCast_pow)
open Go.Proofs
theorem I5(p c x y:Nat):p*((c+x+y)%65536)+p*65536*((c+x+y)/65536)=p*c+p*x+p*y:=by
 have h:=Nat.div_add_mod (c+x+y) 65536;rw[Nat.mul_assoc,←Nat.mul_add,Nat.add_comm,h,Nat.mul_add,Nat.mul_add]
theorem FQ{o:List Nat}{i v:Nat}(h:i<o.length):val ((o.set i v).take (i+1))=val (o.take i)+65536^i*v:=by
 rw[Dh (by simpa using h),List.take_set_of_le (Az _),Ax,List.getElem?_set_self h,Option.getD_some]
theorem R2{o:List Nat}(ho:Ok o)(h:o=[]∨65536^(o.length - 1)≤val o):o=limbs (val o):=by
 have h1:=Gk o ho;have h2:=FD o o.length;have h3:(limbs (val o)).length=Bd o o.length:=by rw[←h1,AP];omega
 rcases h with rfl|h
 ·rfl
 ·have h4:=Bn (limbs (val o)) (An _);rw[Ao]at h4;have h5:o.length - 1<(limbs (val o)).length:=by
   rcases Nat.lt_or_ge (o.length - 1) (limbs (val o)).length with h6|h6
   ·exact h6
   ·have:=Nat.pow_le_pow_right (show 0<65536 by omega) h6
    omega
  rw[←h1,AH (by omega)]
theorem Pu{o:List Nat}{v:Nat}(ho:Ok o)(h:val o+65536^o.length*1=v):D.slice (o.length+1) (List.take (o.length+1) (o.map u16++[D.int .u16 (IntKind.u16.wrap 1)]))=Ac (limbs v):=by
 have e:o++[1]=limbs v:=by
  have h1:val (o++[1])=v:=by rw[Je];exact h
  have:=R2 (o:=o++[1]) (ho.app (Ok.nil.cons (by omega))) (.inr (by rw[List.length_append,List.length_singleton,Nat.add_sub_cancel,h1];omega))
  rwa [h1]at this
 have e2:o.map u16++[D.int .u16 (IntKind.u16.wrap 1)]=(o++[1]).map u16:=by
  rw[List.map_append]
  rfl
 rw[e2,e,AH (by rw[←e];simp)]
 have:o.length+1=(limbs v).length:=by rw[←e];simp
 rw[this]
 rfl
theorem RO{o x:List Nat}{v q:Nat}(ho:Ok o)(hx:o.length=x.length)(hq:x=[]∨65536^(x.length - 1)≤q)(hle:q≤v)(h:val o=v):D.slice x.length (List.take x.length (o.map u16))=Ac (limbs v):=by
 have e:o=limbs v:=by
  have:=R2 ho (by
   rcases hq with rfl|hq
   ·exact .inl (jzv.1 hx)
   ·exact .inr (by rw[hx,h];omega))
  rwa [h]at this
 rw[←hx,AH (by simp),←e]
 rfl
theorem jgT(a b:List Nat)(ha:Ok a)(hl:a.length≤100000)(hb:Ok b)(hm:b.length≤100000):
  CallsF Tryz.prog 365 [.c (Ac a),.c (Ac b)] (.u (.c (.d (Ac (limbs (val a+val b)))))):=by
 have ta:=BP a ha (by omega)
 have tb':=BP b hb (by omega)
 have l1:=Bg a ha;have l2:=Bg b hb;generalize val a=m at*;generalize val b=n at*;clear ha hb;have low: ∀k,limbs k=[]∨65536^((limbs k).length - 1)≤k:=fun k=>by
  by_cases h:(limbs k).length=0
  ·exact .inl (jzv.1 h)
  ·exact .inr (jad (by omega))
 have om:=An m;have on:=An n;have vm:=Ao m;have vn:=Ao n;have lm:=low m;have ln:=low n;clear low;have hsum:m+n=n+m:=Nat.add_comm m n;refine Ak (T:=tb) Ah mixed Tryz.func365 rfl (by decide) (Af rfl) rfl ?_;unfold St.init
 simp -implicitDefEqProofs[jJ,-natCast_add,-natCast_mul,-natCast_emod,-natCast_ediv,-natCast_pow,-List.map_set]
 (first|refine Ab ta ?_|refine Aa ta ?_)
 simp -implicitDefEqProofs[jJ,-natCast_add,-natCast_mul,-natCast_emod,-natCast_ediv,-natCast_pow,-List.map_set]
 (first|refine Ab tb' ?_|refine Aa tb' ?_)
 simp -implicitDefEqProofs[jJ,-natCast_add,-natCast_mul,-natCast_emod,-natCast_ediv,-natCast_pow,-List.map_set];by_cases hs:(limbs m).length<(limbs n).length
 ·simp -implicitDefEqProofs[jJ,-natCast_add,-natCast_mul,-natCast_emod,-natCast_ediv,-natCast_pow,-List.map_set,hs];refine⟨?_,fun h=>by omega⟩
  rw[hsum]
  generalize limbs m=y at*;generalize limbs n=x at*;generalize m=p at*;generalize n=q at*;clear hsum;have hle:y.length≤x.length:=by omega
  have hmx:x.length≤100000:=by omega
  clear hs l1 l2;refine⟨by omega,⟨by omega,by omega⟩,?_⟩
  refine AF (fun z:Nat×Nat×List Nat=>⟨[(28,vI .i64 z.1),(27,vI .i64 x.length),(26,vC (.d (Ac x))),(6,vI .u32 z.2.1),(5,vC (.sl 25 0 x.length)),(1,vC (.d (Ac y)))],[(25,.row 1 (z.2.2.map u16) true)]⟩)
   (fun z=>z.1≤x.length∧z.2.1≤1∧Ok z.2.2∧z.2.2.length=x.length∧val (z.2.2.take z.1)+65536^z.1*z.2.1=val (x.take z.1)+val (y.take z.1)) (fun z=>x.length - z.1)
   (0,0,List.replicate x.length 0) (by simp[Aw,lk,St.le,vI,vC,IT]) ⟨by simp,by simp,fun z hz=>by rw[List.eq_of_mem_replicate hz];omega,by simp,by simp[val]⟩ ?_
  rintro⟨i,c,o⟩ ⟨h1,h2,h3,h4,h5⟩
  simp only at h1 h2 h3 h4 h5;by_cases hi:i<x.length
  ·have hxi:=on.get (Am hi);have hio:i<o.length:=by omega
   have ex:=Dh hi;rw[Ax,Am hi,Option.getD_some]at ex;by_cases hj:i<y.length
   ·have hyi:=om.get (Am hj);have ey:=Dh hj;rw[Ax,Am hj,Option.getD_some]at ey;simp -implicitDefEqProofs[jJ,-natCast_add,-natCast_mul,-natCast_emod,-natCast_ediv,-natCast_pow,-List.map_set,hi,hj,hio,u16];have es:(c+x[i]+y[i])%4294967296=c+x[i]+y[i]:=by omega
    refine⟨by omega,by omega,i+1,(c+x[i]+y[i])/65536,o.set i ((c+x[i]+y[i])%65536),⟨⟨rfl,by rw[es]⟩,rfl⟩,⟨by omega,by omega,h3.set _ (by omega),by simpa using h4,?_⟩,by omega⟩
    have hA:=I5 (65536^i) c x[i] y[i];rw[FQ hio,ex,ey,Nat.pow_succ];omega
   ·have ey:y.take (i+1)=y.take i:=by rw[AH (by omega),AH (by omega)]
    simp -implicitDefEqProofs[jJ,-natCast_add,-natCast_mul,-natCast_emod,-natCast_ediv,-natCast_pow,-List.map_set,hi,hj,hio,u16];have es:(c+x[i])%4294967296=c+x[i]:=by omega
    refine⟨by omega,by omega,i+1,(c+x[i])/65536,o.set i ((c+x[i])%65536),⟨⟨rfl,by rw[es]⟩,rfl⟩,⟨by omega,by omega,h3.set _ (by omega),by simpa using h4,?_⟩,by omega⟩
    have hA:=I5 (65536^i) c x[i] 0;rw[FQ hio,ex,ey,Nat.pow_succ];simp only[Nat.add_zero,Nat.mul_zero]at hA;omega
  ·have hi2:i=x.length:=by omega
   subst hi2;rw[AH (by omega),B1,AH (by omega),vn,vm]at h5
   by_cases hc:0<c
   ·have hc1:c=1:=by omega
    subst hc1;simp -implicitDefEqProofs[jJ,-natCast_add,-natCast_mul,-natCast_emod,-natCast_ediv,-natCast_pow,-List.map_set,u16,h4];rw[←h4]at h5 ⊢;exact⟨by omega,Pu h3 h5⟩
   ·have hc0:c=0:=by omega
    subst hc0;simp -implicitDefEqProofs[jJ,-natCast_add,-natCast_mul,-natCast_emod,-natCast_ediv,-natCast_pow,-List.map_set,h4];exact RO h3 h4 ln (by omega) (by omega)
 ·simp -implicitDefEqProofs[jJ,-natCast_add,-natCast_mul,-natCast_emod,-natCast_ediv,-natCast_pow,-List.map_set,hs];intro hs';generalize limbs m=x at*;generalize limbs n=y at*;generalize m=q at*;generalize n=p at*;clear hsum;have hle:y.length≤x.length:=by omega
  have hmx:x.length≤100000:=by omega
  clear hs l1 l2;refine⟨by omega,⟨by omega,by omega⟩,?_⟩
  refine AF (fun z:Nat×Nat×List Nat=>⟨[(28,vI .i64 z.1),(27,vI .i64 x.length),(26,vC (.d (Ac x))),(6,vI .u32 z.2.1),(5,vC (.sl 25 0 x.length)),(1,vC (.d (Ac y)))],[(25,.row 1 (z.2.2.map u16) true)]⟩)
   (fun z=>z.1≤x.length∧z.2.1≤1∧Ok z.2.2∧z.2.2.length=x.length∧val (z.2.2.take z.1)+65536^z.1*z.2.1=val (x.take z.1)+val (y.take z.1)) (fun z=>x.length - z.1)
   (0,0,List.replicate x.length 0) (by simp[Aw,lk,St.le,vI,vC,IT]) ⟨by simp,by simp,fun z hz=>by rw[List.eq_of_mem_replicate hz];omega,by simp,by simp[val]⟩ ?_
  rintro⟨i,c,o⟩ ⟨h1,h2,h3,h4,h5⟩
  simp only at h1 h2 h3 h4 h5;by_cases hi:i<x.length
  ·have hxi:=om.get (Am hi);have hio:i<o.length:=by omega
   have ex:=Dh hi;rw[Ax,Am hi,Option.getD_some]at ex;by_cases hj:i<y.length
   ·have hyi:=on.get (Am hj);have ey:=Dh hj;rw[Ax,Am hj,Option.getD_some]at ey;simp -implicitDefEqProofs[jJ,-natCast_add,-natCast_mul,-natCast_emod,-natCast_ediv,-natCast_pow,-List.map_set,hi,hj,hio,u16];have es:(c+x[i]+y[i])%4294967296=c+x[i]+y[i]:=by omega
    refine⟨by omega,by omega,i+1,(c+x[i]+y[i])/65536,o.set i ((c+x[i]+y[i])%65536),⟨⟨rfl,by rw[es]⟩,rfl⟩,⟨by omega,by omega,h3.set _ (by omega),by simpa using h4,?_⟩,by omega⟩
    have hA:=I5 (65536^i) c x[i] y[i];rw[FQ hio,ex,ey,Nat.pow_succ];omega
   ·have ey:y.take (i+1)=y.take i:=by rw[AH (by omega),AH (by omega)]
    simp -implicitDefEqProofs[jJ,-natCast_add,-natCast_mul,-natCast_emod,-natCast_ediv,-natCast_pow,-List.map_set,hi,hj,hio,u16];have es:(c+x[i])%4294967296=c+x[i]:=by omega
    refine⟨by omega,by omega,i+1,(c+x[i])/65536,o.set i ((c+x[i])%65536),⟨⟨rfl,by rw[es]⟩,rfl⟩,⟨by omega,by omega,h3.set _ (by omega),by simpa using h4,?_⟩,by omega⟩
    have hA:=I5 (65536^i) c x[i] 0;rw[FQ hio,ex,ey,Nat.pow_succ];simp only[Nat.add_zero,Nat.mul_zero]at hA;omega
  ·have hi2:i=x.length:=by omega
   subst hi2;rw[AH (by omega),B1,AH (by omega),vm,vn]at h5
   by_cases hc:0<c
   ·have hc1:c=1:=by omega
    subst hc1;simp -implicitDefEqProofs[jJ,-natCast_add,-natCast_mul,-natCast_emod,-natCast_ediv,-natCast_pow,-List.map_set,u16,h4];rw[←h4]at h5 ⊢;exact⟨by omega,Pu h3 h5⟩
   ·have hc0:c=0:=by omega
    subst hc0;simp -implicitDefEqProofs[jJ,-natCast_add,-natCast_mul,-natCast_emod,-natCast_ediv,-natCast_pow,-List.map_set,h4];exact RO h3 h4 lm (by omega) (by omega)
theorem IS{p d r:Nat}{x y c:Nat}(h:x+65536*d=y+c+r):p*r+p*y+p*c=p*x+p*65536*d:=by
 have h1:p*(x+65536*d)=p*(y+c+r):=by rw[h]
 rw[Nat.mul_add,Nat.mul_add,Nat.mul_add,←Nat.mul_assoc]at h1
 omega
theorem RB(a b:List Nat)(ha:Ok a)(hl:a.length≤100000)(hb:Ok b)(hm:b.length≤100000)(hle:val b≤val a):
  CallsF Tryz.prog 366 [.c (Ac a),.c (Ac b)] (.tup [.c (.d (Ac (limbs (val a - val b)))),.c (.d (.int .i64 0))]):=by
 have kc:=KM a b ha (by omega) hb (by omega)
 have ta:=BP a ha (by omega)
 have tb':=BP b hb (by omega)
 have l1:=Bg a ha;have l2:=Bg b hb;have l3:=Dq hle;generalize val a=m at*;generalize val b=n at*;clear ha hb;have ox:=An m;have oy:=An n;have vx:=Ao m;have vy:=Ao n;have hc: ¬cmp3 m n<0:=by
  unfold cmp3;rw[if_neg (by omega)]
  split<;>omega
 generalize limbs m=x at*;have kt:=fun o ho (hol:o.length≤1099511627776)=>BP o ho hol
 refine Ak (T:=tb) Ah mixed Tryz.func366 rfl (by decide) (Af rfl) rfl ?_;unfold St.init
 simp -implicitDefEqProofs[jJ,-natCast_add,-natCast_mul,-natCast_emod,-natCast_ediv,-natCast_pow,-List.map_set]
 (first|refine Ab kc ?_|refine Aa kc ?_)
 simp -implicitDefEqProofs[jJ,-natCast_add,-natCast_mul,-natCast_emod,-natCast_ediv,-natCast_pow,-List.map_set,hc]
 (first|refine Ab ta ?_|refine Aa ta ?_)
 simp -implicitDefEqProofs[jJ,-natCast_add,-natCast_mul,-natCast_emod,-natCast_ediv,-natCast_pow,-List.map_set]
 (first|refine Ab tb' ?_|refine Aa tb' ?_)
 simp -implicitDefEqProofs[jJ,-natCast_add,-natCast_mul,-natCast_emod,-natCast_ediv,-natCast_pow,-List.map_set];refine⟨⟨by omega,by omega⟩,?_⟩
 generalize limbs n=y at*;refine AF (fun z:Nat×Nat×List Nat=>⟨[(24,vI .i64 z.1),(23,vI .i64 x.length),(22,vC (.d (Ac x))),(7,vI .i32 z.2.1),(6,vC (.sl 21 0 x.length)),(1,vC (.d (Ac y)))],[(21,.row 1 (z.2.2.map u16) true)]⟩)
  (fun z=>z.1≤x.length∧z.2.1≤1∧Ok z.2.2∧z.2.2.length=x.length∧val (x.take z.1)+65536^z.1*z.2.1=val (z.2.2.take z.1)+val (y.take z.1)) (fun z=>x.length - z.1)
  (0,0,List.replicate x.length 0) (by simp[Aw,lk,St.le,vI,vC,IT]) ⟨by simp,by simp,fun z hz=>by rw[List.eq_of_mem_replicate hz];omega,by simp,by simp[val]⟩ ?_
 rintro⟨i,c,o⟩ ⟨h1,h2,h3,h4,h5⟩
 simp only at h1 h2 h3 h4 h5;by_cases hi:i<x.length
 ·have hxi:=ox.get (Am hi);have hio:i<o.length:=by omega
  have ex:=Dh hi;rw[Ax,Am hi,Option.getD_some]at ex;by_cases hj:i<y.length
  ·have hyi:=oy.get (Am hj);have ey:=Dh hj;rw[Ax,Am hj,Option.getD_some]at ey;have w1:IntKind.i32.wrap (x[i]:Int)=x[i]:=GK (by omega)
   have w2:IntKind.i32.wrap (y[i]:Int)=y[i]:=GK (by omega)
   by_cases hd:(x[i]:Int) - (c:Nat) - (y[i]:Nat)<0
   ·have e:(x[i]:Int) - (c:Nat) - (y[i]:Nat)+65536=((x[i]+65536 - c - y[i]:Nat):Int):=by omega
    have tl:x[i]+65536 - c - y[i]<65536:=by omega
    simp -implicitDefEqProofs[jJ,-natCast_add,-natCast_mul,-natCast_emod,-natCast_ediv,-natCast_pow,-List.map_set,hi,hj,hio,u16,w1,w2,FP,FT,hd];refine⟨by omega,by omega,by omega,by omega,by omega,i+1,1,o.set i (x[i]+65536 - c - y[i]),⟨⟨rfl,rfl⟩,?_⟩,⟨by omega,by omega,h3.set _ tl,by simpa using h4,?_⟩,by omega⟩
    ·rw[e,D8 _ (by omega),Cd _ _ _ (by omega)]
    ·have hS:=IS (p:=65536^i) (d:=1) (r:=x[i]+65536 - c - y[i]) (x:=x[i]) (y:=y[i]) (c:=c) (by omega)
     rw[FQ hio,ex,ey,Nat.pow_succ]
     omega
   ·have e:(x[i]:Int) - (c:Nat) - (y[i]:Nat)=((x[i] - c - y[i]:Nat):Int):=by omega
    have tl:x[i] - c - y[i]<65536:=by omega
    simp -implicitDefEqProofs[jJ,-natCast_add,-natCast_mul,-natCast_emod,-natCast_ediv,-natCast_pow,-List.map_set,hi,hj,hio,u16,w1,w2,FP,FT,hd];refine⟨by omega,by omega,by omega,by omega,i+1,0,o.set i (x[i] - c - y[i]),⟨⟨rfl,rfl⟩,?_⟩,⟨by omega,by omega,h3.set _ tl,by simpa using h4,?_⟩,by omega⟩
    ·rw[e,D8 _ (by omega),Cd _ _ _ (by omega)]
    ·have hS:=IS (p:=65536^i) (d:=0) (r:=x[i] - c - y[i]) (x:=x[i]) (y:=y[i]) (c:=c) (by omega)
     rw[FQ hio,ex,ey,Nat.pow_succ]
     omega
  ·have ey:y.take (i+1)=y.take i:=by rw[AH (by omega),AH (by omega)]
   have w1:IntKind.i32.wrap (x[i]:Int)=x[i]:=GK (by omega)
   by_cases hd:(x[i]:Int) - (c:Nat)<0
   ·have e:(x[i]:Int) - (c:Nat)+65536=((x[i]+65536 - c:Nat):Int):=by omega
    have tl:x[i]+65536 - c<65536:=by omega
    simp -implicitDefEqProofs[jJ,-natCast_add,-natCast_mul,-natCast_emod,-natCast_ediv,-natCast_pow,-List.map_set,hi,hj,hio,u16,w1,FP,FT,hd];refine⟨by omega,by omega,by omega,by omega,i+1,1,o.set i (x[i]+65536 - c),⟨⟨rfl,rfl⟩,?_⟩,⟨by omega,by omega,h3.set _ tl,by simpa using h4,?_⟩,by omega⟩
    ·rw[e,D8 _ (by omega),Cd _ _ _ (by omega)]
    ·have hS:=IS (p:=65536^i) (d:=1) (r:=x[i]+65536 - c) (x:=x[i]) (y:=0) (c:=c) (by omega)
     rw[FQ hio,ex,ey,Nat.pow_succ]
     omega
   ·have e:(x[i]:Int) - (c:Nat)=((x[i] - c:Nat):Int):=by omega
    have tl:x[i] - c<65536:=by omega
    simp -implicitDefEqProofs[jJ,-natCast_add,-natCast_mul,-natCast_emod,-natCast_ediv,-natCast_pow,-List.map_set,hi,hj,hio,u16,w1,FP,FT,hd];refine⟨by omega,by omega,by omega,i+1,0,o.set i (x[i] - c),⟨⟨rfl,rfl⟩,?_⟩,⟨by omega,by omega,h3.set _ tl,by simpa using h4,?_⟩,by omega⟩
    ·rw[e,D8 _ (by omega),Cd _ _ _ (by omega)]
    ·have hS:=IS (p:=65536^i) (d:=0) (r:=x[i] - c) (x:=x[i]) (y:=0) (c:=c) (by omega)
     rw[FQ hio,ex,ey,Nat.pow_succ]
     omega
 ·have hi2:i=x.length:=by omega
  subst hi2;rw[B1,AH (by omega),AH (by omega),vx,vy]at h5
  have hv:=Bn o h3;rw[h4]at hv;have hc0:c=0:=by
   rcases Nat.lt_or_ge 0 c with h|h
   ·have hc1:c=1:=by omega
    subst hc1;omega
   ·omega
  subst hc0;have hvo:val o=m - n:=by omega
  have kt:=kt o h3 (by omega)
  rw[hvo]at kt
  rw[←h4]
  simp -implicitDefEqProofs[jJ,-natCast_add,-natCast_mul,-natCast_emod,-natCast_ediv,-natCast_pow,-List.map_set]
  (first|refine Ab kt ?_|refine Aa kt ?_)
  simp -implicitDefEqProofs[jJ,-natCast_add,-natCast_mul,-natCast_emod,-natCast_ediv,-natCast_pow,-List.map_set]
theorem JW(a:List Nat)(i:Nat):val (a.take (i+1))=val (a.take i)+65536^i*a.getD i 0:=by
 by_cases h:i<a.length
 ·exact Dh h
 ·rw[AH (by omega),AH (by omega),Ax,By (by omega)]
  simp
theorem XR(b:List Nat)(n:Nat):val b=val (b.take n)+65536^n*val (b.drop n):=by
 by_cases h:n≤b.length
 ·conv=>lhs;rw[←List.take_append_drop n b,CX,AP,A7 h]
 ·rw[AH (by omega),List.drop_eq_nil_of_le (by omega),KK,Nat.mul_zero,Nat.add_zero]
theorem jbV(a b:List Nat)(ha:Ok a)(hl:a.length≤100000)(hb:Ok b)(hm:b.length≤100000):
  CallsF Tryz.prog 151 [.c (Ac a),.c (Ac b)] (.u (.c (.d (Ac (limbs (val a+val b)))))):=by
 have kn:=fun o ho (hol:o.length≤1099511627776)=>B6 o ho hol
 refine Ak (T:=tb) Ah mixed Tryz.func151 rfl (by decide) (Af rfl) rfl ?_;unfold St.init
 simp -implicitDefEqProofs[jJ,-natCast_add,-natCast_mul,-natCast_emod,-natCast_ediv,-natCast_pow];refine CJ [(5,39)] (fun p:Nat×Nat×List Nat=>⟨[(0,vC (.d (Ac a))),(1,vC (.d (Ac b))),(7,vI .i64 p.1),(6,vI .i64 p.2.1),(5,vC (.sl 5 0 p.2.2.length))],[(5,.row 1 (p.2.2.map u16) true)]⟩)
  (fun p=>Ok p.2.2∧p.2.2.length=p.1∧(p.1≤max a.length b.length∧p.2.1≤1∨p.1=max a.length b.length+1∧p.2.1=0)∧val p.2.2+65536^p.1*p.2.1=val (a.take p.1)+val (b.take p.1))
  (fun p=>max a.length b.length+1 - p.1) (0,0,[]) (by simp[Aw,lk,St.le,vI,vC]) ⟨Ok.nil,rfl,.inl ⟨Nat.zero_le _,Nat.zero_le _⟩,by simp[val]⟩ ?_
 rintro⟨i,c,o⟩ ⟨h1,h2,h3,h4⟩
 simp only at h1 h2 h3 h4;by_cases hz:a.length≤i∧b.length≤i∧c=0
 ·obtain⟨z1,z2,rfl⟩:=hz
  have c1: ¬i<a.length:=by omega
  have c2: ¬i<b.length:=by omega
  rw[AH z1,AH z2,Nat.mul_zero,Nat.add_zero]at h4
  simp -implicitDefEqProofs[jJ,-natCast_add,-natCast_mul,-natCast_emod,-natCast_ediv,-natCast_pow,c1,c2]
  (first|refine Ab (kn o h1 (by omega)) ?_|refine Aa (kn o h1 (by omega)) ?_)
  simp -implicitDefEqProofs[jJ,-natCast_add,-natCast_mul,-natCast_emod,-natCast_ediv,-natCast_pow,h4]
 ·have ka:=Ez a ha i (by omega)
  have kb:=Ez b hb i (by omega)
  have ea:=JW a i;have eb:=JW b i;have xa:=HU ha i;have xb:=HU hb i;have za: ¬i<a.length→a.getD i 0=0:=fun h=>by rw[Ax,By (by omega)];rfl
  have zb: ¬i<b.length→b.getD i 0=0:=fun h=>by rw[Ax,By (by omega)];rfl
  generalize a.getD i 0=x at*;generalize b.getD i 0=y at*;have hq:Ok (o++[(x+y+c)%65536]):=h1.app (Ok.nil.cons (by omega))
  have hv:val (o++[(x+y+c)%65536])+65536^(i+1)*((x+y+c)/65536)=val (a.take (i+1))+val (b.take (i+1)):=by
   have hA:=I5 (65536^i) c x y;rw[show c+x+y=x+y+c by omega]at hA
   rw[Je,h2,ea,eb,Nat.pow_succ]
   omega
  have hb3:(i+1≤max a.length b.length∧(x+y+c)/65536≤1∨i+1=max a.length b.length+1∧(x+y+c)/65536=0):=by omega
  have hmu:max a.length b.length+1 - (i+1)<max a.length b.length+1 - i:=by omega
  have hln:(o++[(x+y+c)%65536]).length=i+1:=by simp[h2]
  have hc1:c≤1:=by omega
  have hi:i≤100001:=by omega
  clear h4 ea eb za zb h1 h3;by_cases c1:i<a.length
  ·simp -implicitDefEqProofs[jJ,-natCast_add,-natCast_mul,-natCast_emod,-natCast_ediv,-natCast_pow,c1]
   (first|refine Ab ka ?_|refine Aa ka ?_)
   simp -implicitDefEqProofs[jJ,-natCast_add,-natCast_mul,-natCast_emod,-natCast_ediv,-natCast_pow]
   (first|refine Ab kb ?_|refine Aa kb ?_)
   simp -implicitDefEqProofs[jJ,-natCast_add,-natCast_mul,-natCast_emod,-natCast_ediv,-natCast_pow,u16];exact⟨by omega,by omega,⟨by omega,by omega⟩,by omega,by omega,i+1,(x+y+c)/65536,o++[(x+y+c)%65536],⟨⟨rfl,rfl,by simp⟩,by rw[List.map_append];rfl⟩,⟨hq,hln,hb3,hv⟩,hmu⟩
  ·by_cases c2:i<b.length
   ·simp -implicitDefEqProofs[jJ,-natCast_add,-natCast_mul,-natCast_emod,-natCast_ediv,-natCast_pow,c1,c2]
    (first|refine Ab ka ?_|refine Aa ka ?_)
    simp -implicitDefEqProofs[jJ,-natCast_add,-natCast_mul,-natCast_emod,-natCast_ediv,-natCast_pow]
    (first|refine Ab kb ?_|refine Aa kb ?_)
    simp -implicitDefEqProofs[jJ,-natCast_add,-natCast_mul,-natCast_emod,-natCast_ediv,-natCast_pow,u16];exact⟨by omega,by omega,⟨by omega,by omega⟩,by omega,by omega,i+1,(x+y+c)/65536,o++[(x+y+c)%65536],⟨⟨rfl,rfl,by simp⟩,by rw[List.map_append];rfl⟩,⟨hq,hln,hb3,hv⟩,hmu⟩
   ·have c3:0<c:=by omega
    simp -implicitDefEqProofs[jJ,-natCast_add,-natCast_mul,-natCast_emod,-natCast_ediv,-natCast_pow,c1,c2,c3]
    (first|refine Ab ka ?_|refine Aa ka ?_)
    simp -implicitDefEqProofs[jJ,-natCast_add,-natCast_mul,-natCast_emod,-natCast_ediv,-natCast_pow]
    (first|refine Ab kb ?_|refine Aa kb ?_)
    simp -implicitDefEqProofs[jJ,-natCast_add,-natCast_mul,-natCast_emod,-natCast_ediv,-natCast_pow,u16];exact⟨by omega,by omega,⟨by omega,by omega⟩,by omega,by omega,i+1,(x+y+c)/65536,o++[(x+y+c)%65536],⟨⟨rfl,rfl,by simp⟩,by rw[List.map_append];rfl⟩,⟨hq,hln,hb3,hv⟩,hmu⟩
theorem LU(a b:List Nat)(ha:Ok a)(hl:a.length≤100000)(hb:Ok b)(hm:b.length≤100000)(hle:val b≤val a):
  CallsF Tryz.prog 254 [.c (Ac a),.c (Ac b)] (.tup [.c (.d (Ac (limbs (val a - val b)))),.c (.d (.int .i64 0))]):=by
 have kc:=HL a b ha (by omega) hb (by omega)
 have kn:=fun o ho (hol:o.length≤1099511627776)=>B6 o ho hol
 have hc: ¬cmp3 (val a) (val b)<0:=by
  unfold cmp3;rw[if_neg (by omega)]
  split<;>omega
 generalize hcm:cmp3 (val a) (val b)=cm at*;refine Ak (T:=tb) Ah mixed Tryz.func254 rfl (by decide) (Af rfl) rfl ?_;unfold St.init
 simp -implicitDefEqProofs[jJ,-natCast_add,-natCast_mul,-natCast_emod,-natCast_ediv,-natCast_pow]
 (first|refine Ab kc ?_|refine Aa kc ?_)
 simp -implicitDefEqProofs[jJ,-natCast_add,-natCast_mul,-natCast_emod,-natCast_ediv,-natCast_pow,hc];refine CJ [(6,37)] (fun p:Nat×Nat×List Nat=>⟨[(0,vC (.d (Ac a))),(1,vC (.d (Ac b))),(8,vI .i64 p.1),(7,vI .i64 p.2.1),(6,vC (.sl 6 0 p.2.2.length))],[(6,.row 1 (p.2.2.map u16) true)]⟩)
  (fun p=>Ok p.2.2∧p.2.2.length=p.1∧p.1≤a.length∧p.2.1≤1∧val (a.take p.1)+65536^p.1*p.2.1=val p.2.2+val (b.take p.1))
  (fun p=>a.length - p.1) (0,0,[]) (by simp[Aw,lk,St.le,vI,vC]) ⟨Ok.nil,rfl,Nat.zero_le _,Nat.zero_le _,by simp[val]⟩ ?_
 rintro⟨i,c,o⟩ ⟨h1,h2,h3,h4,h5⟩
 simp only at h1 h2 h3 h4 h5;by_cases hi:i<a.length
 ·have ka:=Ez a ha i (by omega)
  have kb:=Ez b hb i (by omega)
  have ea:=JW a i;have eb:=JW b i;have xa:=HU ha i;have xb:=HU hb i;generalize a.getD i 0=x at*;generalize b.getD i 0=y at*;have key: ∀d r,x+65536*d=y+c+r→r<65536→Ok (o++[r])∧(o++[r]).length=i+1∧val (a.take (i+1))+65536^(i+1)*d=val (o++[r])+val (b.take (i+1)):=fun d r hr hr2=>by
   have hS:=IS (p:=65536^i) hr;refine⟨h1.app (Ok.nil.cons hr2),by simp[h2],?_⟩
   rw[Je,h2,ea,eb,Nat.pow_succ]
   omega
  clear h5 ea eb hle hc kc;by_cases hd:(x:Int) - (y:Nat) - (c:Nat)<0
  ·have e:(x:Int) - (y:Nat) - (c:Nat)+65536=((x+65536 - y - c:Nat):Int):=by omega
   obtain⟨k1,k2,k3⟩:=key 1 (x+65536 - y - c) (by omega) (by omega)
   clear key;simp -implicitDefEqProofs[jJ,-natCast_add,-natCast_mul,-natCast_emod,-natCast_ediv,-natCast_pow,hi]
   (first|refine Ab ka ?_|refine Aa ka ?_)
   simp -implicitDefEqProofs[jJ,-natCast_add,-natCast_mul,-natCast_emod,-natCast_ediv,-natCast_pow]
   (first|refine Ab kb ?_|refine Aa kb ?_)
   simp -implicitDefEqProofs[jJ,-natCast_add,-natCast_mul,-natCast_emod,-natCast_ediv,-natCast_pow,hd];exact⟨by omega,by omega,by omega,⟨by omega,by omega⟩,by omega,i+1,1,o++[x+65536 - y - c],⟨⟨rfl,rfl,by simp⟩,by rw[List.map_append,e,D8 _ (by omega)];rfl⟩,⟨k1,k2,by omega,by omega,k3⟩,by omega⟩
  ·have e:(x:Int) - (y:Nat) - (c:Nat)=((x - y - c:Nat):Int):=by omega
   obtain⟨k1,k2,k3⟩:=key 0 (x - y - c) (by omega) (by omega)
   clear key;simp -implicitDefEqProofs[jJ,-natCast_add,-natCast_mul,-natCast_emod,-natCast_ediv,-natCast_pow,hi]
   (first|refine Ab ka ?_|refine Aa ka ?_)
   simp -implicitDefEqProofs[jJ,-natCast_add,-natCast_mul,-natCast_emod,-natCast_ediv,-natCast_pow]
   (first|refine Ab kb ?_|refine Aa kb ?_)
   simp -implicitDefEqProofs[jJ,-natCast_add,-natCast_mul,-natCast_emod,-natCast_ediv,-natCast_pow,hd];exact⟨by omega,by omega,⟨by omega,by omega⟩,by omega,i+1,0,o++[x - y - c],⟨⟨rfl,rfl,by simp⟩,by rw[List.map_append,e,D8 _ (by omega)];rfl⟩,⟨k1,k2,by omega,by omega,k3⟩,by omega⟩
 ·have hi2:i=a.length:=by omega
  have hv:val o=val a - val b:=by
   rw[AH (by omega)]at h5
   have hs:=XR b i;have lo:=Bn o h1;have la:=Bn a ha;rw[h2]at lo;rw[←hi2]at la;have hz:val (b.drop i)=0:=by
    rcases Nat.eq_zero_or_pos (val (b.drop i))with h0|h0
    ·exact h0
    ·have:=Nat.mul_le_mul_left (65536^i) h0
     omega
   rw[hz,Nat.mul_zero,Nat.add_zero]at hs
   rcases Nat.eq_zero_or_pos c with h0|h0
   ·subst h0;omega
   ·obtain rfl:c=1:=by omega
    omega
  clear h5;simp -implicitDefEqProofs[jJ,-natCast_add,-natCast_mul,-natCast_emod,-natCast_ediv,-natCast_pow,hi]
  (first|refine Ab (kn o h1 (by omega)) ?_|refine Aa (kn o h1 (by omega)) ?_)
  simp -implicitDefEqProofs[jJ,-natCast_add,-natCast_mul,-natCast_emod,-natCast_ediv,-natCast_pow,hv]
theorem Wh(a b:List Nat)(ha:Ok a)(hl:a.length≤100000)(hb:Ok b)(hm:b.length≤100000)(hlt:val a<val b):
  CallsF Tryz.prog 254 [.c (Ac a),.c (Ac b)] (.tup [.c (.d (Ac [])),.c (.d (.int .i64 2))]):=by
 have kc:=HL a b ha (by omega) hb (by omega)
 rw[HN hlt]at kc
 refine Ak (T:=tb) Ah mixed Tryz.func254 rfl (by decide) (Af rfl) rfl ?_;unfold St.init
 simp -implicitDefEqProofs[jJ,-natCast_add,-natCast_mul,-natCast_emod,-natCast_ediv,-natCast_pow]
 (first|refine Ab kc ?_|refine Aa kc ?_)
 simp -implicitDefEqProofs[jJ,-natCast_add,-natCast_mul,-natCast_emod,-natCast_ediv,-natCast_pow];rfl
end Go.Va
