/- a part of the proof -/
import Derived.Test.YtkfdniccmcolgaaGreatQam
import Derived.Test.YtkfdniccmcolgaaGreatQba
import Derived.Test.YtkfdniccmcolgaaGreatQan
set_option linter.all false
set_option maxHeartbeats 4000000
set_option maxRecDepth 10000
namespace Go.Va
open Int (natCast_add natCast_mul natCast_emod natCast_ediv natCast_pow)
open Go.Proofs
theorem FI(p c x y:Nat):p*((c+x+y)%65536)+p*65536*((c+x+y)/65536)=p*c+p*x+p*y:=by
 have h:=Nat.div_add_mod (c+x+y) 65536;rw[Nat.mul_assoc,←Nat.mul_add,Nat.add_comm,h,Nat.mul_add,Nat.mul_add]
theorem C9{o:List Nat}{i v:Nat}(h:i<o.length):val ((o.set i v).take (i+1))=val (o.take i)+65536^i*v:=by
 rw[IR (by simpa using h),List.take_set_of_le (AA _),Ar,List.getElem?_set_self h,Option.getD_some]
theorem KI{o:List Nat}(ho:Ok o)(h:o=[]∨65536^(o.length - 1)≤val o):o=limbs (val o):=by
 have h1:=HT o ho;have h2:=Hi o o.length;have h3:(limbs (val o)).length=Bk o o.length:=by rw[←h1,AG];omega
 rcases h with rfl|h
 ·rfl
 ·have h4:=C3 (limbs (val o)) (Ap _);rw[Am]at h4;have h5:o.length - 1<(limbs (val o)).length:=by
   rcases Nat.lt_or_ge (o.length - 1) (limbs (val o)).length with h6|h6
   ·exact h6
   ·have:=Nat.pow_le_pow_right (show 0<65536 by omega) h6
    omega
  rw[←h1,AI (by omega)]
theorem Kr{o:List Nat}{v:Nat}(ho:Ok o)(h:val o+65536^o.length*1=v):D.slice (o.length+1) (List.take (o.length+1) (o.map u16++[D.int .u16 (IntKind.u16.wrap 1)]))=Ab (limbs v):=by
 have e:o++[1]=limbs v:=by
  have h1:val (o++[1])=v:=by rw[jcA];exact h
  have:=KI (o:=o++[1]) (ho.app (Ok.nil.cons (by omega))) (.inr (by rw[List.length_append,List.length_singleton,Nat.add_sub_cancel,h1];omega))
  rwa [h1]at this
 have e2:o.map u16++[D.int .u16 (IntKind.u16.wrap 1)]=(o++[1]).map u16:=by
  rw[List.map_append]
  rfl
 rw[e2,e,AI (by rw[←e];simp)]
 have:o.length+1=(limbs v).length:=by rw[←e];simp
 rw[this]
 rfl
theorem Jo{o x:List Nat}{v q:Nat}(ho:Ok o)(hx:o.length=x.length)(hq:x=[]∨65536^(x.length - 1)≤q)(hle:q≤v)(h:val o=v):D.slice x.length (List.take x.length (o.map u16))=Ab (limbs v):=by
 have e:o=limbs v:=by
  have:=KI ho (by
   rcases hq with rfl|hq
   ·exact .inl (jzv.1 hx)
   ·exact .inr (by rw[hx,h];omega))
  rwa [h]at this
 rw[←hx,AI (by simp),←e]
 rfl
theorem Vo(a b:List Nat)(ha:Ok a)(hl:a.length≤100000)(hb:Ok b)(hm:b.length≤100000):
  CallsF Tryz.prog 288 [.c (Ab a),.c (Ab b)] (.u (.c (.d (Ab (limbs (val a+val b)))))):=by
 have ta:=C1 a ha (by omega)
 have tb':=C1 b hb (by omega)
 have l1:=B0 a ha;have l2:=B0 b hb;generalize val a=m at*;generalize val b=n at*;clear ha hb;have low: ∀k,limbs k=[]∨65536^((limbs k).length - 1)≤k:=fun k=>by
  by_cases h:(limbs k).length=0
  ·exact .inl (jzv.1 h)
  ·exact .inr (Wt (by omega))
 have om:=Ap m;have on:=Ap n;have vm:=Am m;have vn:=Am n;have lm:=low m;have ln:=low n;clear low;have hsum:m+n=n+m:=Nat.add_comm m n;refine Ae (T:=tb) Ad mixed Tryz.func288 rfl (by decide) (Ac rfl) rfl ?_;unfold St.init
 simp -implicitDefEqProofs[jJ,-natCast_add,-natCast_mul,-natCast_emod,-natCast_ediv,-natCast_pow,-List.map_set]
 (first|refine Aa ta ?_|refine Al ta ?_)
 simp -implicitDefEqProofs[jJ,-natCast_add,-natCast_mul,-natCast_emod,-natCast_ediv,-natCast_pow,-List.map_set]
 (first|refine Aa tb' ?_|refine Al tb' ?_)
 simp -implicitDefEqProofs[jJ,-natCast_add,-natCast_mul,-natCast_emod,-natCast_ediv,-natCast_pow,-List.map_set];by_cases hs:(limbs m).length<(limbs n).length
 ·simp -implicitDefEqProofs[jJ,-natCast_add,-natCast_mul,-natCast_emod,-natCast_ediv,-natCast_pow,-List.map_set,hs];refine⟨?_,fun h=>by omega⟩
  rw[hsum]
  generalize limbs m=y at*;generalize limbs n=x at*;generalize m=p at*;generalize n=q at*;clear hsum;have hle:y.length≤x.length:=by omega
  have hmx:x.length≤100000:=by omega
  clear hs l1 l2;refine⟨by omega,⟨by omega,by omega⟩,?_⟩
  refine Av (fun z:Nat×Nat×List Nat=>⟨[(28,vI .i64 z.1),(27,vI .i64 x.length),(26,vC (.d (Ab x))),(6,vI .u32 z.2.1),(5,vC (.sl 25 0 x.length)),(1,vC (.d (Ab y)))],[(25,.row 1 (z.2.2.map u16) true)]⟩)
   (fun z=>z.1≤x.length∧z.2.1≤1∧Ok z.2.2∧z.2.2.length=x.length∧val (z.2.2.take z.1)+65536^z.1*z.2.1=val (x.take z.1)+val (y.take z.1)) (fun z=>x.length - z.1)
   (0,0,List.replicate x.length 0) (by simp[An,lk,St.le,vI,vC,UD]) ⟨by simp,by simp,fun z hz=>by rw[List.eq_of_mem_replicate hz];omega,by simp,by simp[val]⟩ ?_
  rintro⟨i,c,o⟩ ⟨h1,h2,h3,h4,h5⟩
  simp only at h1 h2 h3 h4 h5;by_cases hi:i<x.length
  ·have hxi:=on.get (Ai hi);have hio:i<o.length:=by omega
   have ex:=IR hi;rw[Ar,Ai hi,Option.getD_some]at ex;by_cases hj:i<y.length
   ·have hyi:=om.get (Ai hj);have ey:=IR hj;rw[Ar,Ai hj,Option.getD_some]at ey;simp -implicitDefEqProofs[jJ,-natCast_add,-natCast_mul,-natCast_emod,-natCast_ediv,-natCast_pow,-List.map_set,hi,hj,hio,u16];have es:(c+x[i]+y[i])%4294967296=c+x[i]+y[i]:=by omega
    refine⟨by omega,by omega,i+1,(c+x[i]+y[i])/65536,o.set i ((c+x[i]+y[i])%65536),⟨⟨rfl,by rw[es]⟩,rfl⟩,⟨by omega,by omega,h3.set _ (by omega),by simpa using h4,?_⟩,by omega⟩
    have hA:=FI (65536^i) c x[i] y[i];rw[C9 hio,ex,ey,Nat.pow_succ];omega
   ·have ey:y.take (i+1)=y.take i:=by rw[AI (by omega),AI (by omega)]
    simp -implicitDefEqProofs[jJ,-natCast_add,-natCast_mul,-natCast_emod,-natCast_ediv,-natCast_pow,-List.map_set,hi,hj,hio,u16];have es:(c+x[i])%4294967296=c+x[i]:=by omega
    refine⟨by omega,by omega,i+1,(c+x[i])/65536,o.set i ((c+x[i])%65536),⟨⟨rfl,by rw[es]⟩,rfl⟩,⟨by omega,by omega,h3.set _ (by omega),by simpa using h4,?_⟩,by omega⟩
    have hA:=FI (65536^i) c x[i] 0;rw[C9 hio,ex,ey,Nat.pow_succ];simp only[Nat.add_zero,Nat.mul_zero]at hA;omega
  ·have hi2:i=x.length:=by omega
   subst hi2;rw[AI (by omega),AZ,AI (by omega),vn,vm]at h5
   by_cases hc:0<c
   ·have hc1:c=1:=by omega
    subst hc1;simp -implicitDefEqProofs[jJ,-natCast_add,-natCast_mul,-natCast_emod,-natCast_ediv,-natCast_pow,-List.map_set,u16,h4];rw[←h4]at h5 ⊢;exact⟨by omega,Kr h3 h5⟩
   ·have hc0:c=0:=by omega
    subst hc0;simp -implicitDefEqProofs[jJ,-natCast_add,-natCast_mul,-natCast_emod,-natCast_ediv,-natCast_pow,-List.map_set,h4];exact Jo h3 h4 ln (by omega) (by omega)
 ·simp -implicitDefEqProofs[jJ,-natCast_add,-natCast_mul,-natCast_emod,-natCast_ediv,-natCast_pow,-List.map_set,hs];intro hs';generalize limbs m=x at*;generalize limbs n=y at*;generalize m=q at*;generalize n=p at*;clear hsum;have hle:y.length≤x.length:=by omega
  have hmx:x.length≤100000:=by omega
  clear hs l1 l2;refine⟨by omega,⟨by omega,by omega⟩,?_⟩
  refine Av (fun z:Nat×Nat×List Nat=>⟨[(28,vI .i64 z.1),(27,vI .i64 x.length),(26,vC (.d (Ab x))),(6,vI .u32 z.2.1),(5,vC (.sl 25 0 x.length)),(1,vC (.d (Ab y)))],[(25,.row 1 (z.2.2.map u16) true)]⟩)
   (fun z=>z.1≤x.length∧z.2.1≤1∧Ok z.2.2∧z.2.2.length=x.length∧val (z.2.2.take z.1)+65536^z.1*z.2.1=val (x.take z.1)+val (y.take z.1)) (fun z=>x.length - z.1)
   (0,0,List.replicate x.length 0) (by simp[An,lk,St.le,vI,vC,UD]) ⟨by simp,by simp,fun z hz=>by rw[List.eq_of_mem_replicate hz];omega,by simp,by simp[val]⟩ ?_
  rintro⟨i,c,o⟩ ⟨h1,h2,h3,h4,h5⟩
  simp only at h1 h2 h3 h4 h5;by_cases hi:i<x.length
  ·have hxi:=om.get (Ai hi);have hio:i<o.length:=by omega
   have ex:=IR hi;rw[Ar,Ai hi,Option.getD_some]at ex;by_cases hj:i<y.length
   ·have hyi:=on.get (Ai hj);have ey:=IR hj;rw[Ar,Ai hj,Option.getD_some]at ey;simp -implicitDefEqProofs[jJ,-natCast_add,-natCast_mul,-natCast_emod,-natCast_ediv,-natCast_pow,-List.map_set,hi,hj,hio,u16];have es:(c+x[i]+y[i])%4294967296=c+x[i]+y[i]:=by omega
    refine⟨by omega,by omega,i+1,(c+x[i]+y[i])/65536,o.set i ((c+x[i]+y[i])%65536),⟨⟨rfl,by rw[es]⟩,rfl⟩,⟨by omega,by omega,h3.set _ (by omega),by simpa using h4,?_⟩,by omega⟩
    have hA:=FI (65536^i) c x[i] y[i];rw[C9 hio,ex,ey,Nat.pow_succ];omega
   ·have ey:y.take (i+1)=y.take i:=by rw[AI (by omega),AI (by omega)]
    simp -implicitDefEqProofs[jJ,-natCast_add,-natCast_mul,-natCast_emod,-natCast_ediv,-natCast_pow,-List.map_set,hi,hj,hio,u16];have es:(c+x[i])%4294967296=c+x[i]:=by omega
    refine⟨by omega,by omega,i+1,(c+x[i])/65536,o.set i ((c+x[i])%65536),⟨⟨rfl,by rw[es]⟩,rfl⟩,⟨by omega,by omega,h3.set _ (by omega),by simpa using h4,?_⟩,by omega⟩
    have hA:=FI (65536^i) c x[i] 0;rw[C9 hio,ex,ey,Nat.pow_succ];simp only[Nat.add_zero,Nat.mul_zero]at hA;omega
  ·have hi2:i=x.length:=by omega
   subst hi2;rw[AI (by omega),AZ,AI (by omega),vm,vn]at h5
   by_cases hc:0<c
   ·have hc1:c=1:=by omega
    subst hc1;simp -implicitDefEqProofs[jJ,-natCast_add,-natCast_mul,-natCast_emod,-natCast_ediv,-natCast_pow,-List.map_set,u16,h4];rw[←h4]at h5 ⊢;exact⟨by omega,Kr h3 h5⟩
   ·have hc0:c=0:=by omega
    subst hc0;simp -implicitDefEqProofs[jJ,-natCast_add,-natCast_mul,-natCast_emod,-natCast_ediv,-natCast_pow,-List.map_set,h4];exact Jo h3 h4 lm (by omega) (by omega)
theorem FM{p d r:Nat}{x y c:Nat}(h:x+65536*d=y+c+r):p*r+p*y+p*c=p*x+p*65536*d:=by
 have h1:p*(x+65536*d)=p*(y+c+r):=by rw[h]
 rw[Nat.mul_add,Nat.mul_add,Nat.mul_add,←Nat.mul_assoc]at h1
 omega
theorem Jm(a b:List Nat)(ha:Ok a)(hl:a.length≤100000)(hb:Ok b)(hm:b.length≤100000)(hle:val b≤val a):
  CallsF Tryz.prog 289 [.c (Ab a),.c (Ab b)] (.tup [.c (.d (Ab (limbs (val a - val b)))),.c (.d (.int .i64 0))]):=by
 have kc:=U6 a b ha (by omega) hb (by omega)
 have ta:=C1 a ha (by omega)
 have tb':=C1 b hb (by omega)
 have l1:=B0 a ha;have l2:=B0 b hb;have l3:=GS hle;generalize val a=m at*;generalize val b=n at*;clear ha hb;have ox:=Ap m;have oy:=Ap n;have vx:=Am m;have vy:=Am n;have hc: ¬cmp3 m n<0:=by
  unfold cmp3;rw[if_neg (by omega)]
  split<;>omega
 generalize limbs m=x at*;have kt:=fun o ho (hol:o.length≤1099511627776)=>C1 o ho hol
 refine Ae (T:=tb) Ad mixed Tryz.func289 rfl (by decide) (Ac rfl) rfl ?_;unfold St.init
 simp -implicitDefEqProofs[jJ,-natCast_add,-natCast_mul,-natCast_emod,-natCast_ediv,-natCast_pow,-List.map_set]
 (first|refine Aa kc ?_|refine Al kc ?_)
 simp -implicitDefEqProofs[jJ,-natCast_add,-natCast_mul,-natCast_emod,-natCast_ediv,-natCast_pow,-List.map_set,hc]
 (first|refine Aa ta ?_|refine Al ta ?_)
 simp -implicitDefEqProofs[jJ,-natCast_add,-natCast_mul,-natCast_emod,-natCast_ediv,-natCast_pow,-List.map_set]
 (first|refine Aa tb' ?_|refine Al tb' ?_)
 simp -implicitDefEqProofs[jJ,-natCast_add,-natCast_mul,-natCast_emod,-natCast_ediv,-natCast_pow,-List.map_set];refine⟨⟨by omega,by omega⟩,?_⟩
 generalize limbs n=y at*;refine Av (fun z:Nat×Nat×List Nat=>⟨[(24,vI .i64 z.1),(23,vI .i64 x.length),(22,vC (.d (Ab x))),(7,vI .i32 z.2.1),(6,vC (.sl 21 0 x.length)),(1,vC (.d (Ab y)))],[(21,.row 1 (z.2.2.map u16) true)]⟩)
  (fun z=>z.1≤x.length∧z.2.1≤1∧Ok z.2.2∧z.2.2.length=x.length∧val (x.take z.1)+65536^z.1*z.2.1=val (z.2.2.take z.1)+val (y.take z.1)) (fun z=>x.length - z.1)
  (0,0,List.replicate x.length 0) (by simp[An,lk,St.le,vI,vC,UD]) ⟨by simp,by simp,fun z hz=>by rw[List.eq_of_mem_replicate hz];omega,by simp,by simp[val]⟩ ?_
 rintro⟨i,c,o⟩ ⟨h1,h2,h3,h4,h5⟩
 simp only at h1 h2 h3 h4 h5;by_cases hi:i<x.length
 ·have hxi:=ox.get (Ai hi);have hio:i<o.length:=by omega
  have ex:=IR hi;rw[Ar,Ai hi,Option.getD_some]at ex;by_cases hj:i<y.length
  ·have hyi:=oy.get (Ai hj);have ey:=IR hj;rw[Ar,Ai hj,Option.getD_some]at ey;have w1:IntKind.i32.wrap (x[i]:Int)=x[i]:=J7 (by omega)
   have w2:IntKind.i32.wrap (y[i]:Int)=y[i]:=J7 (by omega)
   by_cases hd:(x[i]:Int) - (c:Nat) - (y[i]:Nat)<0
   ·have e:(x[i]:Int) - (c:Nat) - (y[i]:Nat)+65536=((x[i]+65536 - c - y[i]:Nat):Int):=by omega
    have tl:x[i]+65536 - c - y[i]<65536:=by omega
    simp -implicitDefEqProofs[jJ,-natCast_add,-natCast_mul,-natCast_emod,-natCast_ediv,-natCast_pow,-List.map_set,hi,hj,hio,u16,w1,w2,Kv,Ly,hd];refine⟨by omega,by omega,by omega,by omega,by omega,i+1,1,o.set i (x[i]+65536 - c - y[i]),⟨⟨rfl,rfl⟩,?_⟩,⟨by omega,by omega,h3.set _ tl,by simpa using h4,?_⟩,by omega⟩
    ·rw[e,JT _ (by omega),DB _ _ _ (by omega)]
    ·have hS:=FM (p:=65536^i) (d:=1) (r:=x[i]+65536 - c - y[i]) (x:=x[i]) (y:=y[i]) (c:=c) (by omega)
     rw[C9 hio,ex,ey,Nat.pow_succ]
     omega
   ·have e:(x[i]:Int) - (c:Nat) - (y[i]:Nat)=((x[i] - c - y[i]:Nat):Int):=by omega
    have tl:x[i] - c - y[i]<65536:=by omega
    simp -implicitDefEqProofs[jJ,-natCast_add,-natCast_mul,-natCast_emod,-natCast_ediv,-natCast_pow,-List.map_set,hi,hj,hio,u16,w1,w2,Kv,Ly,hd];refine⟨by omega,by omega,by omega,by omega,i+1,0,o.set i (x[i] - c - y[i]),⟨⟨rfl,rfl⟩,?_⟩,⟨by omega,by omega,h3.set _ tl,by simpa using h4,?_⟩,by omega⟩
    ·rw[e,JT _ (by omega),DB _ _ _ (by omega)]
    ·have hS:=FM (p:=65536^i) (d:=0) (r:=x[i] - c - y[i]) (x:=x[i]) (y:=y[i]) (c:=c) (by omega)
     rw[C9 hio,ex,ey,Nat.pow_succ]
     omega
  ·have ey:y.take (i+1)=y.take i:=by rw[AI (by omega),AI (by omega)]
   have w1:IntKind.i32.wrap (x[i]:Int)=x[i]:=J7 (by omega)
   by_cases hd:(x[i]:Int) - (c:Nat)<0
   ·have e:(x[i]:Int) - (c:Nat)+65536=((x[i]+65536 - c:Nat):Int):=by omega
    have tl:x[i]+65536 - c<65536:=by omega
    simp -implicitDefEqProofs[jJ,-natCast_add,-natCast_mul,-natCast_emod,-natCast_ediv,-natCast_pow,-List.map_set,hi,hj,hio,u16,w1,Kv,Ly,hd];refine⟨by omega,by omega,by omega,by omega,i+1,1,o.set i (x[i]+65536 - c),⟨⟨rfl,rfl⟩,?_⟩,⟨by omega,by omega,h3.set _ tl,by simpa using h4,?_⟩,by omega⟩
    ·rw[e,JT _ (by omega),DB _ _ _ (by omega)]
    ·have hS:=FM (p:=65536^i) (d:=1) (r:=x[i]+65536 - c) (x:=x[i]) (y:=0) (c:=c) (by omega)
     rw[C9 hio,ex,ey,Nat.pow_succ]
     omega
   ·have e:(x[i]:Int) - (c:Nat)=((x[i] - c:Nat):Int):=by omega
    have tl:x[i] - c<65536:=by omega
    simp -implicitDefEqProofs[jJ,-natCast_add,-natCast_mul,-natCast_emod,-natCast_ediv,-natCast_pow,-List.map_set,hi,hj,hio,u16,w1,Kv,Ly,hd];refine⟨by omega,by omega,by omega,i+1,0,o.set i (x[i] - c),⟨⟨rfl,rfl⟩,?_⟩,⟨by omega,by omega,h3.set _ tl,by simpa using h4,?_⟩,by omega⟩
    ·rw[e,JT _ (by omega),DB _ _ _ (by omega)]
    ·have hS:=FM (p:=65536^i) (d:=0) (r:=x[i] - c) (x:=x[i]) (y:=0) (c:=c) (by omega)
     rw[C9 hio,ex,ey,Nat.pow_succ]
     omega
 ·have hi2:i=x.length:=by omega
  subst hi2;rw[AZ,AI (by omega),AI (by omega),vx,vy]at h5
  have hv:=C3 o h3;rw[h4]at hv;have hc0:c=0:=by
   rcases Nat.lt_or_ge 0 c with h|h
   ·have hc1:c=1:=by omega
    subst hc1;omega
   ·omega
  subst hc0;have hvo:val o=m - n:=by omega
  have kt:=kt o h3 (by omega)
  rw[hvo]at kt
  rw[←h4]
  simp -implicitDefEqProofs[jJ,-natCast_add,-natCast_mul,-natCast_emod,-natCast_ediv,-natCast_pow,-List.map_set]
  (first|refine Aa kt ?_|refine Al kt ?_)
  simp -implicitDefEqProofs[jJ,-natCast_add,-natCast_mul,-natCast_emod,-natCast_ediv,-natCast_pow,-List.map_set]
def BZ(z:Int):List RC:=[.d (.bool (decide (z<0))),.d (Ab (limbs z.natAbs))]
theorem Vq(neg:Bool)(n:Nat):AO neg n=BZ (toZ neg n):=by
 unfold AO BZ toZ sg;cases neg with
 |false=>simp
 |true=>
  have:decide (-(n:Int)<0)=decide (0<n):=decide_eq_decide.2 (by omega)
  simp[this]
theorem Gx{neg:Bool}{n:Nat}{z:Int}(h:toZ neg n=z):AO neg n=BZ z:=by rw[Vq,h]
theorem I7(na nb:Bool)(a b:List Nat)(ha:Ok a)(hl:a.length≤100000)(hb:Ok b)(hm:b.length≤100000):
  CallsF Tryz.prog 270 [.agg [.bool na,Ab a],.agg [.bool nb,Ab b]] (.u (.agg (BZ (toZ na (val a)+toZ nb (val b))))):=by
 have kc:=U6 a b ha (by omega) hb (by omega)
 have kA:=Vo a b ha hl hb hm;have kS:=Jm a b ha hl hb hm;have kS':=Jm b a hb hm ha hl;generalize val a=m at*;generalize val b=n at*;clear ha hl hb hm;have k1:=TD na (m+n);have k2:=TD na (m - n);have k3:=TD nb (n - m);by_cases hs:na=nb
 ·subst hs;have e:AO na (m+n)=BZ (toZ na m+toZ na n):=Gx (by unfold toZ;cases na<;>simp<;>omega)
  rw[e]at k1
  unfold BZ at*;generalize toZ na m+toZ na n=z at*;refine Ae (T:=tb) Ad mixed Tryz.func270 rfl (by decide) (Ac rfl) rfl ?_;unfold St.init
  simp -implicitDefEqProofs[jJ,-natCast_add,-natCast_mul];refine Af (Aj [0,1,0,4,0,16,60,127,255]) [.any [] [] (Ao [[2],[12],[2],[14],[3],[16],[15,17]]),.one,.one] (by rfl) ?_
  simp -implicitDefEqProofs[jJ,-natCast_add,-natCast_mul]
  (first|refine Aa kA ?_|refine Al kA ?_)
  simp -implicitDefEqProofs[jJ,-natCast_add,-natCast_mul]
  (first|refine Aa k1 ?_|refine Al k1 ?_)
  simp -implicitDefEqProofs[jJ,-natCast_add,-natCast_mul]
 ·by_cases hlt:m<n
  ·have kS':=kS' (by omega)
   have hc:cmp3 m n<0:=by rw[NQ hlt];omega
   have e:AO nb (n - m)=BZ (toZ na m+toZ nb n):=Gx (by unfold toZ;cases na<;>cases nb<;>simp at hs ⊢ <;>omega)
   rw[e]at k3
   unfold BZ at*;generalize toZ na m+toZ nb n=z at*;refine Ae (T:=tb) Ad mixed Tryz.func270 rfl (by decide) (Ac rfl) rfl ?_;unfold St.init
   simp -implicitDefEqProofs[jJ,-natCast_add,-natCast_mul,hs]
   (first|refine Aa kc ?_|refine Al kc ?_)
   simp -implicitDefEqProofs[jJ,-natCast_add,-natCast_mul,hc]
   (first|refine Aa kS' ?_|refine Al kS' ?_)
   simp -implicitDefEqProofs[jJ,-natCast_add,-natCast_mul]
   (first|refine Aa k3 ?_|refine Al k3 ?_)
   simp -implicitDefEqProofs[jJ,-natCast_add,-natCast_mul]
  ·have kS:=kS (by omega)
   have hc: ¬cmp3 m n<0:=by
    unfold cmp3;rw[if_neg (by omega)]
    split<;>omega
   have e:AO na (m - n)=BZ (toZ na m+toZ nb n):=Gx (by unfold toZ;cases na<;>cases nb<;>simp at hs ⊢ <;>omega)
   rw[e]at k2
   unfold BZ at*;generalize toZ na m+toZ nb n=z at*;refine Ae (T:=tb) Ad mixed Tryz.func270 rfl (by decide) (Ac rfl) rfl ?_;unfold St.init
   simp -implicitDefEqProofs[jJ,-natCast_add,-natCast_mul,hs]
   (first|refine Aa kc ?_|refine Al kc ?_)
   simp -implicitDefEqProofs[jJ,-natCast_add,-natCast_mul,hc]
   (first|refine Aa kS ?_|refine Al kS ?_)
   simp -implicitDefEqProofs[jJ,-natCast_add,-natCast_mul]
   (first|refine Aa k2 ?_|refine Al k2 ?_)
   simp -implicitDefEqProofs[jJ,-natCast_add,-natCast_mul]
def T8:List (List Nat):=(Aj [0,1,3,7,7,7,39,119,247,503,1023,7,2055,7,7,7,49159,114695,253959,516103,1040391,2095111,4194303,8388607,16777215])
@[simp]def Ub:List Seg:=[.one,.one,.one,.any [] [] (Ao [[0,9],[1,9],[2,9],[12,9],[11,13,9],[14,9],[15,9],[10,16,9],[3,9],[18,9],[4,9],[5,9],[2,9],[21,22,9],[23,9],[20,24,9],[25,9],[26,9],[19,27,9]]),.one,.one,.one]
theorem TB(r x:Nat)(hr:r<281474976710656)(hx:x<65536):D8 .u64 (DR .u64 (r:Int) 16) (x:Int)=((r*65536+x:Nat):Int):=by
 have e:DR .u64 (r:Int) 16=((r*65536:Nat):Int):=by
  have:=U5 r 16 (by omega)
  rw[show(2:Nat)^16=65536 from by decide,AH (by omega)]at this
  exact this
 rw[e,SI _ _ (by omega) (by omega),Nat.or_comm]
 have:=JS x r 16 (by omega)
 rw[show(2:Nat)^16=65536 from by decide,Nat.mul_comm 65536 r]at this
 rw[this,Nat.add_comm]
theorem jgt(q r n j:Nat)(u v:List Nat)(hn:2≤n)(hv:v.length=n)(hj:j+n≤u.length)(hul:u.length≤1000)(ou:Ok u)(ov:Ok v)(hq:q≤1000000)(hr:r<65536):
  CallsF Tryz.prog 294 [.c (.ref [.int .u64 q]),.c (.ref [Ab v]),.c (.ref [.int .i64 n]),.c (.ref [.int .u64 r]),.c (.ref [Ab u]),.c (.ref [.int .i64 j])]
   (.u (.c (.d (.bool (decide (65536≤q)||decide (r*65536+u.getD (j+n - 2) 0<q*v.getD (n - 2) 0)))))):=by
 have h1:n - 2<v.length:=by omega
 have h2:j+n - 2<u.length:=by omega
 have e1:v.getD (n - 2) 0=v[n - 2]:=by rw[Ar,Ai h1];rfl
 have e2:u.getD (j+n - 2) 0=u[j+n - 2]:=by rw[Ar,Ai h2];rfl
 rw[e1,e2]
 have x1:v[n - 2]<65536:=ov _ (Ak h1);have x2:u[j+n - 2]<65536:=ou _ (Ak h2);have g1:v[n - 2]? =some v[n - 2]:=Ai h1;have g2:u[j+n - 2]? =some u[j+n - 2]:=Ai h2;generalize v[n - 2]=y at*;generalize u[j+n - 2]=x at*;have m1:q*y≤1000000*65535:=Nat.mul_le_mul hq (by omega)
 have m2:q*y%18446744073709551616=q*y:=AH (by omega)
 have o1:=TB r x (by omega) x2
 refine Ae (T:=tb) Ad mixed Tryz.func294 rfl (by decide) (Ac rfl) rfl ?_;unfold St.init
 by_cases hb:65536≤q
 ·simp (maxSteps:=2000000) -implicitDefEqProofs[jJ,-natCast_add,-natCast_mul,-natCast_emod,-natCast_ediv,-natCast_pow,hb];refine Af T8 Ub (by rfl) ?_
  simp (maxSteps:=2000000) -implicitDefEqProofs[jJ,-natCast_add,-natCast_mul,-natCast_emod,-natCast_ediv,-natCast_pow,hb]
 ·have n1:(n:Int) - 2=((n - 2:Nat):Int):=by omega
  have n2:((j+n:Nat):Int) - 2=((j+n - 2:Nat):Int):=by omega
  simp (maxSteps:=2000000) -implicitDefEqProofs[jJ,-natCast_add,-natCast_mul,-natCast_emod,-natCast_ediv,-natCast_pow,hb];refine Af T8 Ub (by rfl) ?_
  have m0:x%18446744073709551616=x:=AH (by omega)
  have m3:y%18446744073709551616=y:=AH (by omega)
  simp (maxSteps:=2000000) -implicitDefEqProofs[jJ,-natCast_add,-natCast_mul,-natCast_emod,-natCast_ediv,-natCast_pow,hb,n1,n2,g1,g2,m0,m2,m3,o1,u16];omega
def dl(d:Nat):List Nat→List Nat×Nat
 |[]=>([],0)
 |x::a=>(((dl d a).2*65536+x)/d::(dl d a).1,((dl d a).2*65536+x)%d)
theorem KB{d:Nat}(hd:0<d)(hd2:d<65536): ∀a:List Nat,Ok a→val (dl d a).1*d+(dl d a).2=val a∧(dl d a).2<d∧Ok (dl d a).1∧(dl d a).1.length=a.length
 |[],_=>⟨by simp[dl,val],hd,Ok.nil,rfl⟩
 |x::a,h=>by
  obtain⟨h1,h2,h3,h4⟩:=KB hd hd2 a h.tail
  have hx:=h.head
  show val (((dl d a).2*65536+x)/d::(dl d a).1)*d+((dl d a).2*65536+x)%d=val (x::a)∧((dl d a).2*65536+x)%d<d∧Ok (((dl d a).2*65536+x)/d::(dl d a).1)∧(((dl d a).2*65536+x)/d::(dl d a).1).length=(x::a).length
  generalize dl d a=s at*;obtain⟨q,r⟩:=s;simp only at*;have hq:(r*65536+x)/d<65536:=by
   rw[Nat.div_lt_iff_lt_mul hd]
   have:(r+1)*65536≤d*65536:=Bl _ h2
   omega
  refine⟨?_,Nat.mod_lt _ hd,Ok.cons hq h3,by simp[h4]⟩
  have hdm:=Nat.div_add_mod (r*65536+x) d;rw[Nat.mul_comm]at hdm;rw[val,val,Nat.add_mul,Nat.mul_assoc];generalize (r*65536+x)/d*d=A at*;generalize val q*d=B at*;omega
theorem jhv{d:Nat}(hd:0<d)(hd2:d<65536){a:List Nat}(ha:Ok a):val (dl d a).1=val a/d∧(dl d a).2=val a%d:=by
 obtain⟨h1,h2,_,_⟩:=KB hd hd2 a ha
 rw[←h1]
 constructor
 ·rw[Nat.mul_comm,Nat.mul_add_div hd,Nat.div_eq_of_lt h2,Nat.add_zero]
 ·rw[Nat.mul_comm,Nat.mul_add_mod,AH h2]
theorem jbF(r x:Nat)(hr:r<65536)(hx:x<65536):D8 .u32 (DR .u32 (r:Int) 16) (x:Int)=((r*65536+x:Nat):Int):=by
 have e:DR .u32 (r:Int) 16=((r*65536:Nat):Int):=by
  have:=Nv r 16 (by omega)
  rw[show(2:Nat)^16=65536 from by decide,AH (by omega)]at this
  exact this
 rw[e,UC _ _ (by omega) (by omega),Nat.or_comm]
 have:=JS x r 16 (by omega)
 rw[show(2:Nat)^16=65536 from by decide,Nat.mul_comm 65536 r]at this
 rw[this,Nat.add_comm]
theorem jh5(a:List Nat)(d:Nat)(ha:Ok a)(hl:a.length≤1000)(hd:0<d)(hd2:d<65536):
  CallsF Tryz.prog 283 [.c (Ab a),.c (.int .u16 d)] (.tup [.c (.d (Ab (limbs (val a/d)))),.c (.d (.int .u16 (val a%d:Nat)))]):=by
 obtain⟨e1,e2⟩:=jhv hd hd2 ha
 obtain⟨_,hr,ho,hlen⟩:=KB hd hd2 a ha
 have kt:=C1 (dl d a).1 ho (by omega)
 rw[e1]at kt
 rw[←e2]
 obtain⟨W,R,J,hW0,hR0,hWn,hRn,hJ0,hJn,hJ,hJs,hst⟩: ∃(W:Nat→List Nat) (R:Nat→Nat) (J:Nat→Int),W 0=List.replicate a.length 0∧R 0=0∧W a.length=(dl d a).1∧R a.length=(dl d a).2∧J 0=(a.length:Int) - 1∧J a.length= -1∧
   (∀k,k<a.length→ ∃j:Nat,J k=j∧j+1+k=a.length)∧(∀k,k<a.length→J (k+1)=J k - 1)∧
   ∀k (_:k<a.length) (j:Nat),J k=j→(W k).length=a.length∧R k<d∧ ∃hj:j<a.length,W (k+1)=(W k).set j ((R k*65536+a[j])/d)∧R (k+1)=(R k*65536+a[j])%d:=by
  refine⟨fun k=>List.replicate (a.length - k) 0++(dl d (a.drop (a.length - k))).1,fun k=>(dl d (a.drop (a.length - k))).2,fun k=>(a.length:Int) - 1 - k,by simp[dl],by simp[dl],by simp,by simp,by simp,by simp only;omega,fun k hk=>⟨a.length - 1 - k,by simp only;omega,by omega⟩,fun k hk=>by simp only;omega,fun k hk j hj=> ?_⟩
  have hj':(a.length:Int) - 1 - k=j:=hj
  have hj2:j=a.length - 1 - k:=by omega
  have hdr:a.drop j=a[j]'(by omega)::a.drop (j+1):=AD (by omega)
  have oa:Ok (a.drop (j+1)):=fun y hy=>ha y (List.mem_of_mem_drop hy)
  obtain⟨_,s2,_,s4⟩:=KB hd hd2 _ oa
  simp only;rw[show a.length - k=j+1 by omega,show a.length - (k+1)=j by omega]
  refine⟨?_,s2,by omega,?_,?_⟩
  ·rw[List.length_append,List.length_replicate,s4,List.length_drop];omega
  ·rw[hdr,dl,List.set_append_left _ _ (by simp),List.replicate_succ',List.set_append_right _ _ (by simp)]
   simp
  ·rw[hdr,dl]
 rw[←hWn]at kt
 rw[←hRn]
 have hWl:(W a.length).length=a.length:=by rw[hWn];exact hlen
 refine Ae (T:=tb) Ad mixed Tryz.func283 rfl (by decide) (Ac rfl) rfl ?_;unfold St.init
 simp -implicitDefEqProofs[jJ,-natCast_add,-natCast_mul,-natCast_emod,-natCast_ediv,-natCast_pow,-List.map_set];refine⟨by omega,by omega,?_⟩
 refine Av (fun k:Nat=>⟨[(8,vI .i64 (J k)),(7,vI .u32 (R k)),(6,vC (.sl 11 0 a.length)),(0,vC (.d (Ab a))),(1,.u (.c (.d (.int .u16 d))))],[(11,.row 1 ((W k).map u16) true)]⟩) (fun k=>k≤a.length) (fun k=>a.length - k) 0
  (by simp[An,lk,St.le,vI,vC,hW0,hR0,hJ0,u16]) (by omega) ?_
 rintro k hk
 by_cases h:k<a.length
 ·obtain⟨j,hj,hj2⟩:=hJ k h
  have hjs:=hJs k h;obtain⟨hwl,hrd,hja,hW1,hR1⟩:=hst k h j hj;rw[hj]at hjs ⊢;have hx:a[j]<65536:=ha _ (Ak hja);have oh:=jbF (R k) a[j] (by omega) hx
  have nz: ¬d=0:=by omega
  have hq:(R k*65536+a[j])/d<65536:=by
   rw[Nat.div_lt_iff_lt_mul hd]
   have:(R k+1)*65536≤d*65536:=Bl _ hrd
   omega
  have m1:a[j]%4294967296=a[j]:=AH (by omega)
  have m2:d%4294967296=d:=AH (by omega)
  have m3:(R k*65536+a[j])/d%4294967296=(R k*65536+a[j])/d:=AH (by omega)
  have m4:(R k*65536+a[j])/d%65536=(R k*65536+a[j])/d:=AH hq
  simp -implicitDefEqProofs[jJ,-natCast_add,-natCast_mul,-natCast_emod,-natCast_ediv,-natCast_pow,-List.map_set,hja,oh,u16,nz,m1,m2,m3,m4];refine⟨by omega,by omega,k+1,⟨⟨by rw[hjs],hR1.symm⟩,?_⟩,by omega,by omega⟩
  rw[DB _ _ _ (by omega),hW1]
 ·have hk2:k=a.length:=by omega
  subst hk2;have et:List.take a.length (List.map u16 (W a.length))=List.map u16 (W a.length):=AI (by simp[hWl])
  have en:D.slice a.length (List.map u16 (W a.length))=Ab (W a.length):=by
   show _=D.slice (W a.length).length _
   rw[hWl]
  have m5:R a.length%65536=R a.length:=AH (by rw[hRn];omega)
  rw[hJn]
  simp -implicitDefEqProofs[jJ,-natCast_add,-natCast_mul,-natCast_emod,-natCast_ediv,-natCast_pow,-List.map_set,et,en];refine .inl ⟨by omega,_,kt,?_⟩
  simp -implicitDefEqProofs[jJ,-natCast_add,-natCast_mul,-natCast_emod,-natCast_ediv,-natCast_pow,-List.map_set,m5]
end Go.Va
