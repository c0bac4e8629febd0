/- a part of the proof -/
import Derived.Test.YtlgoebgnbkhmmaaGreatDoorZat
import Derived.Test.YtlgoebgnbkhmmaaGreatDoorRows
import Derived.ProofKit
import Derived.OpenShut
import Derived.Carry
import Derived.ChangeSlices
set_option linter.all false
set_option maxHeartbeats 4000000
set_option maxRecDepth 100000
namespace Go.Va
open Int renaming natCast_add → qA, natCast_mul → qB, natCast_emod → qC, natCast_ediv → qD, natCast_pow → qE
open List renaming reduceReplicate → qF
open Go.Proofs
theorem J8(a:List Nat)(i:Nat):val (a.take (i+1))=val (a.take i)+65536^i*a.getD i 0:=by
 by_cases h:i<a.length
 ·exact Dp h
 ·rw[Ba (by omega),Ba (by omega),AL,B9 (by omega)]
  simp
theorem Wa(b:List Nat)(n:Nat):val b=val (b.take n)+65536^n*val (b.drop n):=by
 by_cases h:n≤b.length
 ·conv=>lhs;rw[←List.take_append_drop n b,CF,A8,Bs h]
 ·rw[Ba (by omega),List.drop_eq_nil_of_le (by omega),KN,Nat.mul_zero,Nat.add_zero]
theorem WM(a b:List Nat)(ha:Ok a)(hl:a.length≤100000)(hb:Ok b)(hm:b.length≤100000):
  CallsF Tryz.prog 121 [.c (Ad a),.c (Ad b)] (.u (.c (.d (Ad (limbs (val a+val b)))))):=by
 have kn:=fun o ho (hol:o.length≤70368744177664)=>CM o ho hol
 refine cO Tryz.func121 rfl ?_;simp -implicitDefEqProofs[jJ,-qA,-qB,-qC,-qD,-qE];refine CE [(5,39)] (fun p:Nat×Nat×List Nat=>⟨[(0,vC (.d (Ad a))),(1,vC (.d (Ad b))),(7,vI .i64 p.1),(6,vI .i64 p.2.1),(5,vC (.sl 5 0 p.2.2.length))],[(5,.row 1 (p.2.2.map u16) true)]⟩)
  (fun p=>Ok p.2.2∧p.2.2.length=p.1∧(p.1≤max a.length b.length∧p.2.1≤1∨p.1=max a.length b.length+1∧p.2.1=0)∧val p.2.2+65536^p.1*p.2.1=val (a.take p.1)+val (b.take p.1))
  (fun p=>max a.length b.length+1 - p.1) (0,0,[]) (by simp[AW,lk,St.le,vI,vC]) ⟨Ok.nil,rfl,.inl ⟨Nat.zero_le _,Nat.zero_le _⟩,by simp[val]⟩ ?_
 rintro⟨i,c,o⟩ ⟨h1,h2,h3,h4⟩
 simp only at h1 h2 h3 h4;by_cases hz:a.length≤i∧b.length≤i∧c=0
 ·obtain⟨z1,z2,rfl⟩:=hz
  have c1: ¬i<a.length:=by omega
  have c2: ¬i<b.length:=by omega
  rw[Ba z1,Ba z2,Nat.mul_zero,Nat.add_zero]at h4
  simp -implicitDefEqProofs[jJ,-qA,-qB,-qC,-qD,-qE,c1,c2]
  (first|refine Ac (kn o h1 (by omega)) ?_|refine Ae (kn o h1 (by omega)) ?_)
  simp -implicitDefEqProofs[jJ,-qA,-qB,-qC,-qD,-qE,h4]
 ·have ka:=En a ha i (by omega)
  have kb:=En b hb i (by omega)
  have ea:=J8 a i;have eb:=J8 b i;have xa:=H5 ha i;have xb:=H5 hb i;have za: ¬i<a.length→a.getD i 0=0:=fun h=>by rw[AL,B9 (by omega)];rfl
  have zb: ¬i<b.length→b.getD i 0=0:=fun h=>by rw[AL,B9 (by omega)];rfl
  generalize a.getD i 0=x at*;generalize b.getD i 0=y at*;have hq:Ok (o++[(x+y+c)%65536]):=h1.app (Ok.nil.cons (by omega))
  have hv:val (o++[(x+y+c)%65536])+65536^(i+1)*((x+y+c)/65536)=val (a.take (i+1))+val (b.take (i+1)):=by
   have hA:=joF (65536^i) c x y;rw[show c+x+y=x+y+c by omega]at hA
   rw[Ks,h2,ea,eb,Nat.pow_succ]
   omega
  have hb3:(i+1≤max a.length b.length∧(x+y+c)/65536≤1∨i+1=max a.length b.length+1∧(x+y+c)/65536=0):=by omega
  have hmu:max a.length b.length+1 - (i+1)<max a.length b.length+1 - i:=by omega
  have hln:(o++[(x+y+c)%65536]).length=i+1:=by simp[h2]
  have hc1:c≤1:=by omega
  have hi:i≤100001:=by omega
  clear h4 ea eb za zb h1 h3;by_cases c1:i<a.length
  ·simp -implicitDefEqProofs[jJ,-qA,-qB,-qC,-qD,-qE,c1]
   (first|refine Ac ka ?_|refine Ae ka ?_)
   simp -implicitDefEqProofs[jJ,-qA,-qB,-qC,-qD,-qE]
   (first|refine Ac kb ?_|refine Ae kb ?_)
   simp -implicitDefEqProofs[jJ,-qA,-qB,-qC,-qD,-qE,u16];exact⟨by omega,by omega,⟨by omega,by omega⟩,by omega,by omega,i+1,(x+y+c)/65536,o++[(x+y+c)%65536],⟨⟨rfl,rfl,by simp⟩,by rw[List.map_append];rfl⟩,⟨hq,hln,hb3,hv⟩,hmu⟩
  ·by_cases c2:i<b.length
   ·simp -implicitDefEqProofs[jJ,-qA,-qB,-qC,-qD,-qE,c1,c2]
    (first|refine Ac ka ?_|refine Ae ka ?_)
    simp -implicitDefEqProofs[jJ,-qA,-qB,-qC,-qD,-qE]
    (first|refine Ac kb ?_|refine Ae kb ?_)
    simp -implicitDefEqProofs[jJ,-qA,-qB,-qC,-qD,-qE,u16];exact⟨by omega,by omega,⟨by omega,by omega⟩,by omega,by omega,i+1,(x+y+c)/65536,o++[(x+y+c)%65536],⟨⟨rfl,rfl,by simp⟩,by rw[List.map_append];rfl⟩,⟨hq,hln,hb3,hv⟩,hmu⟩
   ·have c3:0<c:=by omega
    simp -implicitDefEqProofs[jJ,-qA,-qB,-qC,-qD,-qE,c1,c2,c3]
    (first|refine Ac ka ?_|refine Ae ka ?_)
    simp -implicitDefEqProofs[jJ,-qA,-qB,-qC,-qD,-qE]
    (first|refine Ac kb ?_|refine Ae kb ?_)
    simp -implicitDefEqProofs[jJ,-qA,-qB,-qC,-qD,-qE,u16];exact⟨by omega,by omega,⟨by omega,by omega⟩,by omega,by omega,i+1,(x+y+c)/65536,o++[(x+y+c)%65536],⟨⟨rfl,rfl,by simp⟩,by rw[List.map_append];rfl⟩,⟨hq,hln,hb3,hv⟩,hmu⟩
theorem No(a b:List Nat)(ha:Ok a)(hl:a.length≤70368744177664)(hb:Ok b)(hm:b.length≤70368744177664)(hle:val b≤val a):
  CallsF Tryz.prog 286 [.c (Ad a),.c (Ad b)] (.tup [.c (.d (Ad (limbs (val a - val b)))),.c (.d (.int .i64 0))]):=by
 have kc:=Iq a b ha (by omega) hb (by omega)
 have kn:=fun o ho (hol:o.length≤70368744177664)=>CM o ho hol
 have hc: ¬cmp3 (val a) (val b)<0:=by
  unfold cmp3;rw[if_neg (by omega)]
  split<;>omega
 generalize hcm:cmp3 (val a) (val b)=cm at*;refine cO Tryz.func286 rfl ?_;simp -implicitDefEqProofs[jJ,-qA,-qB,-qC,-qD,-qE]
 (first|refine Ac kc ?_|refine Ae kc ?_)
 simp -implicitDefEqProofs[jJ,-qA,-qB,-qC,-qD,-qE,hc];refine CE [(6,37)] (fun p:Nat×Nat×List Nat=>⟨[(0,vC (.d (Ad a))),(1,vC (.d (Ad b))),(8,vI .i64 p.1),(7,vI .i64 p.2.1),(6,vC (.sl 6 0 p.2.2.length))],[(6,.row 1 (p.2.2.map u16) true)]⟩)
  (fun p=>Ok p.2.2∧p.2.2.length=p.1∧p.1≤a.length∧p.2.1≤1∧val (a.take p.1)+65536^p.1*p.2.1=val p.2.2+val (b.take p.1))
  (fun p=>a.length - p.1) (0,0,[]) (by simp[AW,lk,St.le,vI,vC]) ⟨Ok.nil,rfl,Nat.zero_le _,Nat.zero_le _,by simp[val]⟩ ?_
 rintro⟨i,c,o⟩ ⟨h1,h2,h3,h4,h5⟩
 simp only at h1 h2 h3 h4 h5;by_cases hi:i<a.length
 ·have ka:=En a ha i (by omega)
  have kb:=En b hb i (by omega)
  have ea:=J8 a i;have eb:=J8 b i;have xa:=H5 ha i;have xb:=H5 hb i;generalize a.getD i 0=x at*;generalize b.getD i 0=y at*;have key: ∀d r,x+65536*d=y+c+r→r<65536→Ok (o++[r])∧(o++[r]).length=i+1∧val (a.take (i+1))+65536^(i+1)*d=val (o++[r])+val (b.take (i+1)):=fun d r hr hr2=>by
   have hS:=HP (p:=65536^i) hr;refine⟨h1.app (Ok.nil.cons hr2),by simp[h2],?_⟩
   rw[Ks,h2,ea,eb,Nat.pow_succ]
   omega
  clear h5 ea eb hle hc kc;by_cases hd:(x:Int) - (y:Nat) - (c:Nat)<0
  ·have e:(x:Int) - (y:Nat) - (c:Nat)+65536=((x+65536 - y - c:Nat):Int):=by omega
   obtain⟨k1,k2,k3⟩:=key 1 (x+65536 - y - c) (by omega) (by omega)
   clear key;simp -implicitDefEqProofs[jJ,-qA,-qB,-qC,-qD,-qE,hi]
   (first|refine Ac ka ?_|refine Ae ka ?_)
   simp -implicitDefEqProofs[jJ,-qA,-qB,-qC,-qD,-qE]
   (first|refine Ac kb ?_|refine Ae kb ?_)
   simp -implicitDefEqProofs[jJ,-qA,-qB,-qC,-qD,-qE,hd];exact⟨by omega,by omega,by omega,⟨by omega,by omega⟩,by omega,i+1,1,o++[x+65536 - y - c],⟨⟨rfl,rfl,by simp⟩,by rw[List.map_append,e,DV _ (by omega)];rfl⟩,⟨k1,k2,by omega,by omega,k3⟩,by omega⟩
  ·have e:(x:Int) - (y:Nat) - (c:Nat)=((x - y - c:Nat):Int):=by omega
   obtain⟨k1,k2,k3⟩:=key 0 (x - y - c) (by omega) (by omega)
   clear key;simp -implicitDefEqProofs[jJ,-qA,-qB,-qC,-qD,-qE,hi]
   (first|refine Ac ka ?_|refine Ae ka ?_)
   simp -implicitDefEqProofs[jJ,-qA,-qB,-qC,-qD,-qE]
   (first|refine Ac kb ?_|refine Ae kb ?_)
   simp -implicitDefEqProofs[jJ,-qA,-qB,-qC,-qD,-qE,hd];exact⟨by omega,by omega,⟨by omega,by omega⟩,by omega,i+1,0,o++[x - y - c],⟨⟨rfl,rfl,by simp⟩,by rw[List.map_append,e,DV _ (by omega)];rfl⟩,⟨k1,k2,by omega,by omega,k3⟩,by omega⟩
 ·have hi2:i=a.length:=by omega
  have hv:val o=val a - val b:=by
   rw[Ba (by omega)]at h5
   have hs:=Wa b i;have lo:=Bz o h1;have la:=Bz a ha;rw[h2]at lo;rw[←hi2]at la;have hz:val (b.drop i)=0:=by
    rcases Nat.eq_zero_or_pos (val (b.drop i))with h0|h0
    ·exact h0
    ·have:=Nat.mul_le_mul_left (65536^i) h0
     omega
   rw[hz,Nat.mul_zero,Nat.add_zero]at hs
   rcases Nat.eq_zero_or_pos c with h0|h0
   ·subst h0;omega
   ·obtain rfl:c=1:=by omega
    omega
  clear h5;simp -implicitDefEqProofs[jJ,-qA,-qB,-qC,-qD,-qE,hi]
  (first|refine Ac (kn o h1 (by omega)) ?_|refine Ae (kn o h1 (by omega)) ?_)
  simp -implicitDefEqProofs[jJ,-qA,-qB,-qC,-qD,-qE,hv]
theorem cmp3_le{a b:Nat}:cmp3 a b≤0↔a≤b:=by
 unfold cmp3;split
 ·omega
 ·split<;>omega
theorem jci(r b:List Nat)(hr:Ok r)(lr:r.length≤70368744177600)(hb:Ok b)(lb:b.length≤70368744177600)(h0:val b≠0)(hlt:val r<65536*val b):
  CallsF Tryz.prog 285 [.c (Ad r),.c (Ad b)] (.u (.c (.d (.int .u64 (val r/val b:Nat))))):=by
 have kO:=fun(m:Nat) (h:m<65536)=>C6 m (by omega)
 have kM:=fun(m:Nat) (h:m<65536)=>LR b (limbs m) hb (Aw m) (by have:=IK (n:=m) (by omega);omega)
 have kC:=fun(m:Nat) (h:m<65536)=>Iq (limbs (val b*m)) r (Aw _) (by
  have:=Cp b (limbs m) hb (Aw m)
  rw[Az]at this
  have:=IK (n:=m) (by omega)
  omega) hr (by omega)
 simp only[Az]at kM kC;have kD:=fun(m:Nat) (h1:val b*m≤val r) (h2:val r<val b*(m+1))=>Nat.div_eq_of_lt_le (k:=m) (by rw[Nat.mul_comm];exact h1) (by rw[Nat.mul_comm];exact h2)
 have hi0:val r<val b*(65535+1):=by rw[Nat.mul_comm];exact hlt
 generalize val b=n at*;generalize val r=v at*;clear hlt hr hb;refine cO Tryz.func285 rfl ?_;simp -implicitDefEqProofs[jJ,-qA,-qB,-qC,-qD,-qE];refine AV (fun p:Nat×Nat=>⟨[(0,vC (.d (Ad r))),(1,vC (.d (Ad b))),(5,vI .u64 p.1),(6,vI .u64 p.2)],[]⟩)
  (fun p=>p.1≤p.2∧p.2≤65535∧n*p.1≤v∧v<n*(p.2+1)) (fun p=>p.2 - p.1) (0,65535) (by simp[AW,lk,St.le,vI,vC]) ⟨by omega,by omega,by omega,hi0⟩ ?_
 rintro⟨lo,hi⟩ ⟨h1,h2,h3,h4⟩
 simp only at h1 h2 h3 h4;by_cases hlt:lo<hi
 ·have hm1:(lo+hi+1)/2<65536:=by omega
  have kO:=kO _ hm1;have kM:=kM _ hm1;have kC:=kC _ hm1;have e1:(lo+hi)%18446744073709551616=lo+hi:=by omega
  have e2:(lo+hi+1)%18446744073709551616=lo+hi+1:=by omega
  have e3:(lo+hi+1)/2%18446744073709551616=(lo+hi+1)/2:=by omega
  have b1:lo<(lo+hi+1)/2:=by omega
  have b2:(lo+hi+1)/2≤hi:=by omega
  by_cases hle:n*((lo+hi+1)/2)≤v
  ·have hc:cmp3 (n*((lo+hi+1)/2)) v≤0:=cmp3_le.2 hle;simp -implicitDefEqProofs[jJ,-qA,-qB,-qC,-qD,-qE,hlt,e1,e2,e3];generalize (lo+hi+1)/2=mid at*
   (first|refine Ac kO ?_|refine Ae kO ?_)
   simp -implicitDefEqProofs[jJ,-qA,-qB,-qC,-qD,-qE]
   (first|refine Ac kM ?_|refine Ae kM ?_)
   simp -implicitDefEqProofs[jJ,-qA,-qB,-qC,-qD,-qE]
   (first|refine Ac kC ?_|refine Ae kC ?_)
   simp -implicitDefEqProofs[jJ,-qA,-qB,-qC,-qD,-qE,hc];exact⟨mid,hi,by simp[AW,lk,St.le,vI,vC],⟨b2,h2,hle,h4⟩,by omega⟩
  ·have hc: ¬cmp3 (n*((lo+hi+1)/2)) v≤0:=fun h=>hle (cmp3_le.1 h)
   simp -implicitDefEqProofs[jJ,-qA,-qB,-qC,-qD,-qE,hlt,e1,e2,e3];generalize (lo+hi+1)/2=mid at*
   (first|refine Ac kO ?_|refine Ae kO ?_)
   simp -implicitDefEqProofs[jJ,-qA,-qB,-qC,-qD,-qE]
   (first|refine Ac kM ?_|refine Ae kM ?_)
   simp -implicitDefEqProofs[jJ,-qA,-qB,-qC,-qD,-qE]
   (first|refine Ac kC ?_|refine Ae kC ?_)
   simp -implicitDefEqProofs[jJ,-qA,-qB,-qC,-qD,-qE,hc];exact⟨lo,mid - 1,⟨rfl,by omega⟩,⟨by omega,by omega,h3,by rw[show mid - 1+1=mid by omega];omega⟩,by omega⟩
 ·obtain rfl:lo=hi:=by omega
  have:=kD lo h3 h4
  simp -implicitDefEqProofs[jJ,-qA,-qB,-qC,-qD,-qE];exact this.symm
theorem jkI{n W x:Nat}(hn:n≠0)(hW:W<n)(hx:x<65536)(V:Nat)(hV:V%n=W):
  x+65536*W<65536*n∧(x+65536*W)/n<65536∧(x+65536*V)/n=(x+65536*W)/n+65536*(V/n)∧(x+65536*V)%n=(x+65536*W) - n*((x+65536*W)/n)∧n*((x+65536*W)/n)≤x+65536*W∧(x+65536*W) - n*((x+65536*W)/n)<n:=by
 have h1:x+65536*W<65536*n:=by omega
 have hd:=Nat.div_add_mod V n;rw[hV]at hd;have e:x+65536*V=(x+65536*W)+n*(65536*(V/n)):=by
  have:n*(65536*(V/n))=65536*(n*(V/n)):=by rw[Nat.mul_left_comm]
  omega
 have hd2:=Nat.div_add_mod (x+65536*W) n;have hl:=Nat.mod_lt (x+65536*W) (show n>0 by omega)
 refine⟨h1,Nat.div_lt_of_lt_mul (by omega),?_,?_,by omega,by omega⟩
 ·rw[e,Nat.add_mul_div_left _ _ (by omega)]
 ·rw[e,Nat.add_mul_mod_self_left]
  omega
theorem ID(a b:List Nat)(ha:Ok a)(hl:a.length≤70368744177000)(hb:Ok b)(hm:b.length≤70368744177000)(h0:val b≠0):
  CallsF Tryz.prog 195 [.c (Ad a),.c (Ad b)] (.tup [.c (.d (Ad (limbs (val a/val b)))),.c (.d (Ad (limbs (val a%val b)))),.c (.d (.int .i64 0))]):=by
 by_cases hs:val a<18446744073709551616∧val b<18446744073709551616
 ·exact jac a b ha (by omega) hb (by omega) hs.1 hs.2 h0
 have n1:=CM a ha (by omega)
 have n2:=CM b hb (by omega)
 have la:=Bu a ha;have lb:=Bu b hb;generalize val a=m at*;generalize val b=n at*;have hne:limbs n≠[]:=fun h=>h0 (limbs_nil.1 h)
 have hx1:(limbs m).length≤70368744177000:=by omega
 have hy1:(limbs n).length≤70368744177000:=by omega
 have ox:=Aw m;have vx:=Az m;have hlong: ¬((limbs m).length≤4∧(limbs n).length≤4):=fun h=>hs ⟨(GE m).1 h.1,(GE n).1 h.2⟩
 have kn:=fun o ho (hol:o.length≤70368744177664)=>CM o ho hol
 have kd:=fun r (h1:(limbs r).length≤70368744177600) (h2:r<65536*n)=>jci (limbs r) (limbs n) (Aw r) h1 (Aw n) (by omega) (by rw[Az];exact h0) (by rw[Az,Az];exact h2)
 have kO:=fun(d:Nat) (h:d<65536)=>C6 d (by omega)
 have kM:=fun(d:Nat) (h:d<65536)=>LR (limbs n) (limbs d) (Aw n) (Aw d) (by have:=IK (n:=d) (by omega);omega)
 have kS:=fun(r d:Nat) (h1:(limbs r).length≤70368744177664) (h:d<65536) (h2:n*d≤r)=>No (limbs r) (limbs (n*d)) (Aw r) h1 (Aw _) (by have:=CG h2;omega) (by rw[Az,Az];exact h2)
 simp only[Az]at kd kM kS;clear ha hb hl hm la lb hs;generalize limbs m=x at*;have fin: ∀q:List Nat,Ok q→val q=val x/n→limbs (val q)=limbs (m/n):=fun q _ h=>by rw[h,vx]
 have finW:val x%n=m%n:=by rw[vx]
 refine cO Tryz.func195 rfl ?_;simp -implicitDefEqProofs[jJ,-qA,-qB,-qC,-qD,-qE]
 (first|refine Ac n1 ?_|refine Ae n1 ?_)
 simp -implicitDefEqProofs[jJ,-qA,-qB,-qC,-qD,-qE]
 (first|refine Ac n2 ?_|refine Ae n2 ?_)
 have hstep: ∀i (h:i<x.length) (W:Nat),val (x.drop (i+1))%n=W→_:=fun i h W hW=>jkI h0 (hW ▸ Nat.mod_lt _ (by omega)) (ox.get (AD h)) (val (x.drop (i+1))) hW
 have hdrop: ∀i (h:i<x.length),val (x.drop i)=x[i]+65536*val (x.drop (i+1)):=fun i h=>by rw[BQ h];rfl
 have hlW: ∀W,W<n→(limbs W).length≤(limbs n).length:=fun W h=>CG (by omega)
 have h4:x.length≤4∧ ¬(limbs n).length≤4∨ ¬x.length≤4:=by omega
 rcases h4 with⟨h4,h5⟩|h4
 case' inl=>
  simp -implicitDefEqProofs[jJ,-qA,-qB,-qC,-qD,-qE,hne,h4,h5];refine⟨⟨by omega,by omega⟩,?_⟩
 case' inr=>
  simp -implicitDefEqProofs[jJ,-qA,-qB,-qC,-qD,-qE,hne,h4];refine⟨⟨by omega,by omega⟩,?_⟩
 all_goals
  refine CE [(7,60)] (fun p:Nat×Option (List Nat)=>match p.2 with
   |none=>⟨[(0,vC (.d (Ad x))),(1,vC (.d (Ad (limbs n)))),(9,vI .i64 ((p.1:Int) - 1)),(7,vC (.sl 7 0 0)),(8,vC (.sl 8 0 0))],[(7,.row 1 [] true),(8,.row 1 [] true)]⟩
   |some q=>⟨[(0,vC (.d (Ad x))),(1,vC (.d (Ad (limbs n)))),(9,vI .i64 ((p.1:Int) - 1)),(7,vC (.sl 7 0 q.length)),(8,vC (.d (Ad (limbs (val (x.drop p.1)%n)))))],[(7,.row 1 (q.map u16) true)]⟩)
   (fun p=>p.1≤x.length∧match p.2 with|none=>p.1=x.length|some q=>Ok q∧val q=val (x.drop p.1)/n∧q.length+p.1=x.length) (fun p=>p.1) (x.length,none)
   (by simp[AW,lk,St.le,vI,vC]) ⟨AO _,rfl⟩ ?_
  rintro⟨i,o⟩ ⟨g1,g2⟩
  simp only at g1;rcases i with _|i
  ·rcases o with _|q
   ·simp only at g2;have hx0:x=[]:=jzv.1 g2.symm;have hm0:m=0:=by rw[←vx,hx0];rfl
    simp -implicitDefEqProofs[jJ,-qA,-qB,-qC,-qD,-qE]
    (first|refine Ac (kn [] Ok.nil (by simp)) ?_|refine Ae (kn [] Ok.nil (by simp)) ?_)
    simp -implicitDefEqProofs[jJ,-qA,-qB,-qC,-qD,-qE,hm0,KN];rfl
   ·simp only at g2;obtain⟨g2,g3,g4⟩:=g2;rw[List.drop_zero,vx]at g3;simp -implicitDefEqProofs[jJ,-qA,-qB,-qC,-qD,-qE,vx]
    (first|refine Ac (kn q g2 (by omega)) ?_|refine Ae (kn q g2 (by omega)) ?_)
    simp -implicitDefEqProofs[jJ,-qA,-qB,-qC,-qD,-qE,g3]
  ·have hi:i<x.length:=g1;obtain⟨s1,s2,s3,s4,s5,s6⟩:=hstep i hi _ rfl;have hd:=hdrop i hi;obtain⟨xi,hxi⟩:=EI (a:=x) (n:=i) hi;have hxe:x[i]=xi:=by
    rw[AD hi]at hxi
    exact Bi hxi
   rw[hxe]at s1 s2 s3 s4 s5 s6 hd
   have hxl:=ox.get hxi;generalize hV:val (x.drop (i+1))=V at*;have hW:V%n<n:=Nat.mod_lt _ (by omega)
   rw[←hd]at s3 s4
   have hlW:=hlW _ hW;have hlR:(limbs (xi+65536*(V%n))).length≤70368744177001:=by
    have:=Bu (xi::limbs (V%n)) ((Aw _).cons hxl)
    rw[val,Az]at this
    simp only[List.length_cons]at this;omega
   have k1:=kn (xi::limbs (V%n)) ((Aw _).cons hxl) (by simp only[List.length_cons];omega)
   rw[val,Az]at k1
   have k2:=kd (xi+65536*(V%n)) (by omega) s1
   have k3:=kO _ s2;have k4:=kM _ s2;have k5:=kS _ _ (by omega) s2 s5
   generalize xi+65536*(V%n)=R at*;generalize hD:R/n=d at*;rcases o with _|q
   ·simp only at g2;have hV0:V=0:=by rw[←hV,g2,List.drop_length];rfl
    subst hV0;rw[Nat.zero_mod,Cm]at k1;have e8:val (x.drop i)%n=R - n*d:=s4;have hq:Ok [d]:=Ok.nil.cons s2;have hv:val [d]=val (x.drop i)/n:=by rw[s3,Nat.zero_div];rfl
    have hlen:[d].length+i=x.length:=by simp;omega
    clear s1 s3 s4 s6 hd hV;simp -implicitDefEqProofs[jJ,-qA,-qB,-qC,-qD,-qE,hxi,u16];refine⟨hi,?_⟩
    (first|refine Ac k1 ?_|refine Ae k1 ?_)
    simp -implicitDefEqProofs[jJ,-qA,-qB,-qC,-qD,-qE]
    (first|refine Ac k2 ?_|refine Ae k2 ?_)
    simp -implicitDefEqProofs[jJ,-qA,-qB,-qC,-qD,-qE]
    (first|refine Ac k3 ?_|refine Ae k3 ?_)
    simp -implicitDefEqProofs[jJ,-qA,-qB,-qC,-qD,-qE]
    (first|refine Ac k4 ?_|refine Ae k4 ?_)
    simp -implicitDefEqProofs[jJ,-qA,-qB,-qC,-qD,-qE]
    (first|refine Ac k5 ?_|refine Ae k5 ?_)
    simp -implicitDefEqProofs[jJ,-qA,-qB,-qC,-qD,-qE,u16,AX s2];exact⟨⟨by omega,by omega⟩,i,some [d],by simp[AW,lk,vI,vC,e8,u16],⟨by omega,hq,hv,hlen⟩,by omega⟩
   ·obtain⟨g2,g3,g4⟩:=g2
    have e8:val (x.drop i)%n=R - n*d:=s4
    have hq:Ok (d::q):=g2.cons s2;have hv:val (d::q)=val (x.drop i)/n:=by rw[s3,←g3];rfl
    have hlen:(d::q).length+i=x.length:=by simp only[List.length_cons];simp only at g4;omega
    clear s1 s3 s4 s6 hd hV;simp -implicitDefEqProofs[jJ,-qA,-qB,-qC,-qD,-qE,hxi,u16];refine⟨hi,⟨by omega,by omega⟩,.inl ⟨by omega,?_⟩⟩
    have a1:D.slice (1+(limbs (V%n)).length) (List.take (1+(limbs (V%n)).length) (D.int IntKind.u16 xi::List.map u16 (limbs (V%n))))=Ad (xi::limbs (V%n)):=by
     rw[Nat.add_comm,Ba (by simp)]
     rfl
    rw[a1]
    (first|refine Ac k1 ?_|refine Ae k1 ?_)
    simp -implicitDefEqProofs[jJ,-qA,-qB,-qC,-qD,-qE]
    (first|refine Ac k2 ?_|refine Ae k2 ?_)
    simp -implicitDefEqProofs[jJ,-qA,-qB,-qC,-qD,-qE];refine⟨by simp only[List.length_cons]at hlen;omega,?_⟩
    (first|refine Ac k3 ?_|refine Ae k3 ?_)
    simp -implicitDefEqProofs[jJ,-qA,-qB,-qC,-qD,-qE]
    (first|refine Ac k4 ?_|refine Ae k4 ?_)
    simp -implicitDefEqProofs[jJ,-qA,-qB,-qC,-qD,-qE]
    (first|refine Ac k5 ?_|refine Ae k5 ?_)
    simp -implicitDefEqProofs[jJ,-qA,-qB,-qC,-qD,-qE,u16,AX s2];exact⟨⟨by omega,by omega⟩,i,some (d::q),by simp[AW,lk,vI,vC,e8,u16,Nat.add_comm],⟨by omega,hq,hv,hlen⟩,by omega⟩
theorem Ku(a b:List Nat)(ha:Ok a)(hl:a.length≤70368744177000)(hb:Ok b)(hm:b.length≤70368744177000):
  CallsF Tryz.prog 194 [.c (Ad a),.c (Ad b)] (.u (.c (.d (Ad (limbs (Nat.gcd (val a) (val b))))))):=by
 refine cO Tryz.func194 rfl ?_;simp -implicitDefEqProofs[jJ,-qA,-qB,-qC,-qD,-qE]
 (first|refine Ac (CM a ha (by omega)) ?_|refine Ae (CM a ha (by omega)) ?_)
 simp -implicitDefEqProofs[jJ,-qA,-qB,-qC,-qD,-qE]
 (first|refine Ac (CM b hb (by omega)) ?_|refine Ae (CM b hb (by omega)) ?_)
 simp -implicitDefEqProofs[jJ,-qA,-qB,-qC,-qD,-qE];have la:=Bu a ha;have lb:=Bu b hb;have l1:(limbs (val a)).length≤70368744177000:=by omega
 have l2:(limbs (val b)).length≤70368744177000:=by omega
 clear hl hm ha hb la lb;generalize val a=m at*;generalize val b=n at*;refine AV (fun p:Nat×Nat=>⟨[(0,vC (.d (Ad (limbs p.1)))),(1,vC (.d (Ad (limbs p.2))))],[]⟩) (fun p=>Nat.gcd p.1 p.2=Nat.gcd m n∧(limbs p.1).length≤70368744177000∧(limbs p.2).length≤70368744177000) (fun p=>p.2) (m,n) (by simp) ⟨rfl,l1,l2⟩ ?_
 rintro⟨x,y⟩ ⟨g1,g2,g3⟩
 simp only at g1 g2 g3;by_cases h0:y=0
 ·subst h0;simp -implicitDefEqProofs[jJ,-qA,-qB,-qC,-qD,-qE,Cm];rw[←g1,Nat.gcd_zero_right]
 ·have hp:0<(limbs y).length:=limbs_pos_len.2 (by omega)
  have d:=ID (limbs x) (limbs y) (Aw _) g2 (Aw _) g3 (by rw[Az];exact h0)
  rw[Az,Az]at d
  have hml:(limbs (x%y)).length≤70368744177000:=Nat.le_trans (CG (Nat.le_of_lt (Nat.mod_lt _ (by omega)))) g3
  simp -implicitDefEqProofs[jJ,-qA,-qB,-qC,-qD,-qE,hp]
  (first|refine Ac d ?_|refine Ae d ?_)
  simp -implicitDefEqProofs[jJ,-qA,-qB,-qC,-qD,-qE];refine⟨y,x%y,⟨rfl,rfl⟩,⟨?_,g3,hml⟩,Nat.mod_lt _ (by omega)⟩
  rw[Nat.gcd_comm,←Nat.gcd_rec,Nat.gcd_comm,g1]
theorem jcD(a:List Nat):CallsF Tryz.prog 191 [.c (Ad a)] (.u (.agg [.d (.bool false),.d (Ad a)])):=by
 refine cO Tryz.func191 rfl ?_;simp -implicitDefEqProofs[jJ,-qA,-qB]
theorem Ix(neg:Bool)(m d:Nat)(hm:m<340282366920938463463374607431768211456)(hd:d<340282366920938463463374607431768211456)(h0:d≠0)(hg:Nat.gcd m d=1):
  CallsF Tryz.prog 119 [.agg [.bool neg,Ad (limbs m)],.c (Ad (limbs d))] (.u (.agg [.d (.bool (sg neg m)),.d (Ad (limbs m)),.d (Ad (limbs d))])):=by
 refine cO Tryz.func119 rfl ?_;have lm:=BP hm;have ld:=BP hd;have n1:=CM (limbs d) (Aw _) (by omega)
 have g:=Ku (limbs m) (limbs d) (Aw _) (by omega) (Aw _) (by omega)
 have q1:=ID (limbs m) (limbs 1) (Aw _) (by omega) (Aw _) (by decide) (by rw[Az];omega)
 have q2:=ID (limbs d) (limbs 1) (Aw _) (by omega) (Aw _) (by decide) (by rw[Az];omega)
 have n2:=IS neg (limbs m) (Aw _) (by omega)
 rw[Az,Az,hg]at g
 rw[Az]at n1 n2
 rw[Az,Az,Nat.div_one,Nat.mod_one]at q1 q2
 have hne:limbs d≠[]:=fun h=>h0 (limbs_nil.1 h)
 simp -implicitDefEqProofs[jJ,-qA,-qB];refine Ac n1 ?_;simp -implicitDefEqProofs[jJ,-qA,-qB,hne];refine Ac g ?_;simp -implicitDefEqProofs[jJ,-qA,-qB];refine Ac q1 ?_;simp -implicitDefEqProofs[jJ,-qA,-qB];refine Ac q2 ?_;simp -implicitDefEqProofs[jJ,-qA,-qB];refine Ac n2 ?_;simp -implicitDefEqProofs[jJ,-qA,-qB,AU]
end Go.Va
namespace Go.Va
open Go.Proofs

end Go.Va
namespace Go.Va
open Int renaming natCast_add → qA, natCast_mul → qB, natCast_emod → qC, natCast_ediv → qD, natCast_pow → qE
open List renaming reduceReplicate → qF
open Go.Proofs
structure Fct where
 kind:Int
 args:List Int
 neg:Bool
 abs:List Nat
 den:List Nat
 deriving DecidableEq
@[simp]def Fct.ds(f:Fct):List D:=[.int .i64 f.kind,AT f.args,.bool f.neg,Ad f.abs,Ad f.den]
def arity(k:Int):Nat:=if k=1∨k=5 then 3 else if k=2∨k=3∨k=4∨k=6∨k=9 then 4 else if k=7 then 8 else if k=8 then 2 else 0
theorem XI(k:Int):CallsF Tryz.prog 201 [.c (.int .i64 k)] (.u (.c (.d (.int .i64 (arity k))))):=by
 refine cO Tryz.func201 rfl ?_;by_cases h1:k=1
 ·subst h1;simp -implicitDefEqProofs[jJ,-qA,-qB,arity]
 by_cases h2:k=2
 ·subst h2;simp -implicitDefEqProofs[jJ,-qA,-qB,arity]
 by_cases h3:k=3
 ·subst h3;simp -implicitDefEqProofs[jJ,-qA,-qB,arity]
 by_cases h4:k=4
 ·subst h4;simp -implicitDefEqProofs[jJ,-qA,-qB,arity]
 by_cases h5:k=5
 ·subst h5;simp -implicitDefEqProofs[jJ,-qA,-qB,arity]
 by_cases h6:k=6
 ·subst h6;simp -implicitDefEqProofs[jJ,-qA,-qB,arity]
 by_cases h7:k=7
 ·subst h7;simp -implicitDefEqProofs[jJ,-qA,-qB,arity]
 by_cases h8:k=8
 ·subst h8;simp -implicitDefEqProofs[jJ,-qA,-qB,arity]
 by_cases h9:k=9
 ·subst h9;simp -implicitDefEqProofs[jJ,-qA,-qB,arity]
 simp -implicitDefEqProofs[jJ,-qA,-qB,arity,h1,h2,h3,h4,h5,h6,h7,h8,h9]
theorem jj5(k:Int):CallsF Tryz.prog 174 [.c (.int .i64 k)] (.u (.c (.d (.int .i64 (arity k))))):=by
 refine cO Tryz.func174 rfl ?_;by_cases h1:k=1
 ·subst h1;simp -implicitDefEqProofs[jJ,-qA,-qB,arity]
 by_cases h2:k=2
 ·subst h2;simp -implicitDefEqProofs[jJ,-qA,-qB,arity]
 by_cases h3:k=3
 ·subst h3;simp -implicitDefEqProofs[jJ,-qA,-qB,arity]
 by_cases h4:k=4
 ·subst h4;simp -implicitDefEqProofs[jJ,-qA,-qB,arity]
 by_cases h5:k=5
 ·subst h5;simp -implicitDefEqProofs[jJ,-qA,-qB,arity]
 by_cases h6:k=6
 ·subst h6;simp -implicitDefEqProofs[jJ,-qA,-qB,arity]
 by_cases h7:k=7
 ·subst h7;simp -implicitDefEqProofs[jJ,-qA,-qB,arity]
 by_cases h8:k=8
 ·subst h8;simp -implicitDefEqProofs[jJ,-qA,-qB,arity]
 by_cases h9:k=9
 ·subst h9;simp -implicitDefEqProofs[jJ,-qA,-qB,arity]
 simp -implicitDefEqProofs[jJ,-qA,-qB,arity,h1,h2,h3,h4,h5,h6,h7,h8,h9]
def DP(neg:Bool)(a b:List Nat):Bool:= !neg&&decide (a=[])&&decide (b=[])
theorem Y8(neg:Bool)(a b:List Nat):CallsF Tryz.prog 210 [.agg [.bool neg,Ad a,Ad b]] (.u (.c (.d (.bool (DP neg a b))))):=by
 refine cO Tryz.func210 rfl ?_;cases neg<;>cases a<;>cases b<;>simp -implicitDefEqProofs[jJ,-qA,-qB,DP]
theorem jit(neg:Bool)(a b:List Nat):CallsF Tryz.prog 202 [.agg [.bool neg,Ad a,Ad b]] (.u (.c (.d (.bool (DP neg a b))))):=by
 refine cO Tryz.func202 rfl ?_;cases neg<;>cases a<;>cases b<;>simp -implicitDefEqProofs[jJ,-qA,-qB,DP]
def wrong(f:Fct)(n:Int):Int:=
 if arity f.kind=0 then 8 else if f.args.length≠arity f.kind then 1 else if f.args.any (fun a=>decide (a<0)||decide (n≤a)) then 2
 else if (if f.kind=9 then CV f.neg f.abs f.den else DP f.neg f.abs f.den) then 0 else 1
structure Fct.Mild (f:Fct):Prop where
 la:f.abs.length≤8
 ld:f.den.length≤8
 oa:Ok f.abs
 od:Ok f.den
 ln:f.args.length≤1099511627776
structure Fct.Wide (f:Fct):Prop where
 la:f.abs.length≤300
 ld:f.den.length≤300
 oa:Ok f.abs
 od:Ok f.den
 ln:f.args.length≤1099511627776
theorem Fct.Mild.wide{f:Fct}(h:f.Mild):f.Wide:=⟨by have:=h.la;omega,by have:=h.ld;omega,h.oa,h.od,h.ln⟩
theorem Lq{l:List Int}{p:Int→Bool}{i:Nat}(h:i<l.length):(l.drop i).any p=(p l[i]||(l.drop (i+1)).any p):=by
 rw[BQ h,List.any_cons]
theorem jlL(f:Fct)(hf:f.Wide)(n:Int):CallsF Tryz.prog 134 [.agg f.ds,.c (.int .i64 n)] (.u (.c (.d (.int .i64 (wrong f n))))):=by
 refine cO Tryz.func134 rfl ?_;obtain⟨kind,args,neg,abs,den⟩:=f;obtain⟨la,ld,oa,od,ln⟩:=hf;simp only at la ld oa od ln;simp only[Fct.ds,wrong];simp -implicitDefEqProofs[jJ,-qA,-qB];refine Ac (jj5 kind) ?_
 generalize arity kind=ar at*;by_cases h1:ar=0
 ·simp -implicitDefEqProofs[jJ,-qA,-qB,h1]
 by_cases h2:args.length=ar
 ·simp -implicitDefEqProofs[jJ,-qA,-qB,h1,h2];refine AV (fun i:Nat=>⟨[(21,vI .i64 i),(20,vI .i64 (ar:Nat)),(19,vC (.d (AT args))),(2,vC (.ptr 2 0)),(1,vI .i64 n)],[(2,.box [.d (.int .i64 kind),.d (AT args),.d (.bool neg),.d (Ad abs),.d (Ad den)])]⟩) (fun i=>i≤args.length∧(args.drop i).any (fun a=>decide (a<0)||decide (n≤a))=args.any (fun a=>decide (a<0)||decide (n≤a))) (fun i=>args.length - i) 0 (by simp) ⟨by omega,rfl⟩ ?_
  rintro i ⟨h3,h4⟩
  by_cases h:i<args.length
  ·have e:=Lq (p:=fun a=>decide (a<0)||decide (n≤a)) h
   have hk:i<ar:=by omega
   rw[e]at h4
   by_cases h5:args[i]<0
   ·simp -implicitDefEqProofs[jJ,-qA,-qB,h,hk,h5,i64];intro hh;have:=hh _ (AZ h);omega
   ·by_cases h6:n≤args[i]
    ·simp -implicitDefEqProofs[jJ,-qA,-qB,h,hk,h5,h6,i64];intro hh;have:=hh _ (AZ h);omega
    ·simp -implicitDefEqProofs[jJ,-qA,-qB,h,hk,h5,h6,i64];simp only[decide_eq_false h5,decide_eq_false h6,Bool.false_or]at h4;exact⟨by omega,⟨by omega,h4⟩,by omega⟩
  ·have hk: ¬i<ar:=by omega
   have e:i=args.length:=by omega
   rw[e,List.drop_length]at h4
   have h4': ∀x∈args,0≤x∧x<n:=by simpa using h4.symm
   rw[←h4]
   have k1:=PB neg abs den oa (by omega) od (by omega)
   have k2:=Y8 neg abs den;by_cases h9:kind=9
   ·simp -implicitDefEqProofs[jJ,-qA,-qB,hk,h9];refine Ac k1 ?_;cases CV neg abs den<;>simp -implicitDefEqProofs[jJ,-qA,-qB]<;>exact h4'
   ·simp -implicitDefEqProofs[jJ,-qA,-qB,hk,h9];refine Ac k2 ?_;cases DP neg abs den<;>simp -implicitDefEqProofs[jJ,-qA,-qB]<;>exact h4'
 ·simp -implicitDefEqProofs[jJ,-qA,-qB,h1,h2]
end Go.Va
namespace Go.Va
open Go.Proofs Go.ChangeShapes Go.WideShapes Go.ChangeAt Go.RowKit
section
variable {H:Type} {enc:TypeId×Value→H} {w:World} {base:Nat} {sp:Nat→Bool} {hd:Bool}
abbrev Z0:Addr→Prop:=fun _=>False
structure InFact (f:Fct):Prop where
 oa:Ok f.abs
 od:Ok f.den
theorem Tb{P:Program}(hl:laidOutB P=true){W W':World}(hb:Below W.heap.size W W'): ∀{ts:List TypeId} {vs:List Value} {ds:List (DataW H)} {ps:List MemPlace},
  (∀t∈ts,P.readableRec t=true∧t<P.types.size)→DataW.TrodAll enc P W 0 (fun _=>true) true ts vs ds ps→(∀x∈ps,x.block<W.heap.size)→DataW.TrodAll enc P W' 0 (fun b=>decide (b<W.heap.size)) true ts vs ds ps
 |[],vs,ds,ps,_,h,_=>by
  obtain⟨rfl,rfl,rfl⟩:=trodAll_nil h
  rfl
 |t::ts,vs,ds,ps,ht,h,hlt=>by
  obtain⟨v,vs',d,ds',p,q,rfl,rfl,rfl,h1,h2⟩:=trodAll_cons h
  have:=ht t (by simp)
  exact trodAll_cons_mk (Below.trod hl this.1 this.2 h1 hb (fun x hx=>hlt x (by simp[hx]))) (Tb hl hb (fun t' h'=>ht t' (by simp[h'])) h2 (fun x hx=>hlt x (by simp[hx])))
end
theorem WY:laidOutB Tryz.prog=true:=by kernel_rfl
theorem jbF:ownKnob Tryz.prog.godebug=none:=by kernel_rfl
end Go.Va
