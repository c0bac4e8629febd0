/- a part of the proof -/
import Derived.Test.YtfmhdeggclefdaaGreatDoorKas
import Derived.Test.YtfmhdeggclefdaaGreatDoorRows
import Derived.ProofKit
import Derived.OpenShut
import Derived.Carry
import Derived.ChangeSlices
import Derived.Test.YtfmhdeggclefdaaGreatDoorKar
import Derived.Test.YtfmhdeggclefdaaGreatDoorKam
set_option linter.all false
set_option maxHeartbeats 4000000
set_option maxRecDepth 100000
namespace Go.Va
open Int renaming natCast_add → qA, natCast_mul → qB, natCast_emod → qC, natCast_ediv → qD, natCast_pow → qE
open List renaming reduceReplicate → qF
open Go.Proofs
theorem cmp3_le{a b:Nat}:cmp3 a b≤0↔a≤b:=by
 unfold cmp3;split
 ·omega
 ·split<;>omega
theorem jci(r b:List Nat)(hr:Ok r)(lr:r.length≤70368744177600)(hb:Ok b)(lb:b.length≤70368744177600)(h0:val b≠0)(hlt:val r<65536*val b):
  CallsF Tryz.prog 282 [.c (Ad r),.c (Ad b)] (.u (.c (.d (.int .u64 (val r/val b:Nat))))):=by
 have kO:=fun(m:Nat) (h:m<65536)=>C6 m (by omega)
 have kM:=fun(m:Nat) (h:m<65536)=>LR b (limbs m) hb (Aw m) (by have:=IK (n:=m) (by omega);omega)
 have kC:=fun(m:Nat) (h:m<65536)=>Iq (limbs (val b*m)) r (Aw _) (by
  have:=Cp b (limbs m) hb (Aw m)
  rw[Az]at this
  have:=IK (n:=m) (by omega)
  omega) hr (by omega)
 simp only[Az]at kM kC;have kD:=fun(m:Nat) (h1:val b*m≤val r) (h2:val r<val b*(m+1))=>Nat.div_eq_of_lt_le (k:=m) (by rw[Nat.mul_comm];exact h1) (by rw[Nat.mul_comm];exact h2)
 have hi0:val r<val b*(65535+1):=by rw[Nat.mul_comm];exact hlt
 generalize val b=n at*;generalize val r=v at*;clear hlt hr hb;refine cO Tryz.func282 rfl ?_;simp -implicitDefEqProofs[jJ,-qA,-qB,-qC,-qD,-qE];refine AV (fun p:Nat×Nat=>⟨[(0,vC (.d (Ad r))),(1,vC (.d (Ad b))),(5,vI .u64 p.1),(6,vI .u64 p.2)],[]⟩)
  (fun p=>p.1≤p.2∧p.2≤65535∧n*p.1≤v∧v<n*(p.2+1)) (fun p=>p.2 - p.1) (0,65535) (by simp[AW,lk,St.le,vI,vC]) ⟨by omega,by omega,by omega,hi0⟩ ?_
 rintro⟨lo,hi⟩ ⟨h1,h2,h3,h4⟩
 simp only at h1 h2 h3 h4;by_cases hlt:lo<hi
 ·have hm1:(lo+hi+1)/2<65536:=by omega
  have kO:=kO _ hm1;have kM:=kM _ hm1;have kC:=kC _ hm1;have e1:(lo+hi)%18446744073709551616=lo+hi:=by omega
  have e2:(lo+hi+1)%18446744073709551616=lo+hi+1:=by omega
  have e3:(lo+hi+1)/2%18446744073709551616=(lo+hi+1)/2:=by omega
  have b1:lo<(lo+hi+1)/2:=by omega
  have b2:(lo+hi+1)/2≤hi:=by omega
  by_cases hle:n*((lo+hi+1)/2)≤v
  ·have hc:cmp3 (n*((lo+hi+1)/2)) v≤0:=cmp3_le.2 hle;simp -implicitDefEqProofs[jJ,-qA,-qB,-qC,-qD,-qE,hlt,e1,e2,e3];generalize (lo+hi+1)/2=mid at*
   (first|refine Ac kO ?_|refine Ae kO ?_)
   simp -implicitDefEqProofs[jJ,-qA,-qB,-qC,-qD,-qE]
   (first|refine Ac kM ?_|refine Ae kM ?_)
   simp -implicitDefEqProofs[jJ,-qA,-qB,-qC,-qD,-qE]
   (first|refine Ac kC ?_|refine Ae kC ?_)
   simp -implicitDefEqProofs[jJ,-qA,-qB,-qC,-qD,-qE,hc];exact⟨mid,hi,by simp[AW,lk,St.le,vI,vC],⟨b2,h2,hle,h4⟩,by omega⟩
  ·have hc: ¬cmp3 (n*((lo+hi+1)/2)) v≤0:=fun h=>hle (cmp3_le.1 h)
   simp -implicitDefEqProofs[jJ,-qA,-qB,-qC,-qD,-qE,hlt,e1,e2,e3];generalize (lo+hi+1)/2=mid at*
   (first|refine Ac kO ?_|refine Ae kO ?_)
   simp -implicitDefEqProofs[jJ,-qA,-qB,-qC,-qD,-qE]
   (first|refine Ac kM ?_|refine Ae kM ?_)
   simp -implicitDefEqProofs[jJ,-qA,-qB,-qC,-qD,-qE]
   (first|refine Ac kC ?_|refine Ae kC ?_)
   simp -implicitDefEqProofs[jJ,-qA,-qB,-qC,-qD,-qE,hc];exact⟨lo,mid - 1,⟨rfl,by omega⟩,⟨by omega,by omega,h3,by rw[show mid - 1+1=mid by omega];omega⟩,by omega⟩
 ·obtain rfl:lo=hi:=by omega
  have:=kD lo h3 h4
  simp -implicitDefEqProofs[jJ,-qA,-qB,-qC,-qD,-qE];exact this.symm
theorem jkI{n W x:Nat}(hn:n≠0)(hW:W<n)(hx:x<65536)(V:Nat)(hV:V%n=W):
  x+65536*W<65536*n∧(x+65536*W)/n<65536∧(x+65536*V)/n=(x+65536*W)/n+65536*(V/n)∧(x+65536*V)%n=(x+65536*W) - n*((x+65536*W)/n)∧n*((x+65536*W)/n)≤x+65536*W∧(x+65536*W) - n*((x+65536*W)/n)<n:=by
 have h1:x+65536*W<65536*n:=by omega
 have hd:=Nat.div_add_mod V n;rw[hV]at hd;have e:x+65536*V=(x+65536*W)+n*(65536*(V/n)):=by
  have:n*(65536*(V/n))=65536*(n*(V/n)):=by rw[Nat.mul_left_comm]
  omega
 have hd2:=Nat.div_add_mod (x+65536*W) n;have hl:=Nat.mod_lt (x+65536*W) (show n>0 by omega)
 refine⟨h1,Nat.div_lt_of_lt_mul (by omega),?_,?_,by omega,by omega⟩
 ·rw[e,Nat.add_mul_div_left _ _ (by omega)]
 ·rw[e,Nat.add_mul_mod_self_left]
  omega
theorem ID(a b:List Nat)(ha:Ok a)(hl:a.length≤70368744177000)(hb:Ok b)(hm:b.length≤70368744177000)(h0:val b≠0):
  CallsF Tryz.prog 204 [.c (Ad a),.c (Ad b)] (.tup [.c (.d (Ad (limbs (val a/val b)))),.c (.d (Ad (limbs (val a%val b)))),.c (.d (.int .i64 0))]):=by
 by_cases hs:val a<18446744073709551616∧val b<18446744073709551616
 ·exact jac a b ha (by omega) hb (by omega) hs.1 hs.2 h0
 have n1:=CM a ha (by omega)
 have n2:=CM b hb (by omega)
 have la:=Bu a ha;have lb:=Bu b hb;generalize val a=m at*;generalize val b=n at*;have hne:limbs n≠[]:=fun h=>h0 (limbs_nil.1 h)
 have hx1:(limbs m).length≤70368744177000:=by omega
 have hy1:(limbs n).length≤70368744177000:=by omega
 have ox:=Aw m;have vx:=Az m;have hlong: ¬((limbs m).length≤4∧(limbs n).length≤4):=fun h=>hs ⟨(GE m).1 h.1,(GE n).1 h.2⟩
 have kn:=fun o ho (hol:o.length≤70368744177664)=>CM o ho hol
 have kd:=fun r (h1:(limbs r).length≤70368744177600) (h2:r<65536*n)=>jci (limbs r) (limbs n) (Aw r) h1 (Aw n) (by omega) (by rw[Az];exact h0) (by rw[Az,Az];exact h2)
 have kO:=fun(d:Nat) (h:d<65536)=>C6 d (by omega)
 have kM:=fun(d:Nat) (h:d<65536)=>LR (limbs n) (limbs d) (Aw n) (Aw d) (by have:=IK (n:=d) (by omega);omega)
 have kS:=fun(r d:Nat) (h1:(limbs r).length≤70368744177664) (h:d<65536) (h2:n*d≤r)=>No (limbs r) (limbs (n*d)) (Aw r) h1 (Aw _) (by have:=CG h2;omega) (by rw[Az,Az];exact h2)
 simp only[Az]at kd kM kS;clear ha hb hl hm la lb hs;generalize limbs m=x at*;have fin: ∀q:List Nat,Ok q→val q=val x/n→limbs (val q)=limbs (m/n):=fun q _ h=>by rw[h,vx]
 have finW:val x%n=m%n:=by rw[vx]
 refine cO Tryz.func204 rfl ?_;simp -implicitDefEqProofs[jJ,-qA,-qB,-qC,-qD,-qE]
 (first|refine Ac n1 ?_|refine Ae n1 ?_)
 simp -implicitDefEqProofs[jJ,-qA,-qB,-qC,-qD,-qE]
 (first|refine Ac n2 ?_|refine Ae n2 ?_)
 have hstep: ∀i (h:i<x.length) (W:Nat),val (x.drop (i+1))%n=W→_:=fun i h W hW=>jkI h0 (hW ▸ Nat.mod_lt _ (by omega)) (ox.get (AD h)) (val (x.drop (i+1))) hW
 have hdrop: ∀i (h:i<x.length),val (x.drop i)=x[i]+65536*val (x.drop (i+1)):=fun i h=>by rw[BQ h];rfl
 have hlW: ∀W,W<n→(limbs W).length≤(limbs n).length:=fun W h=>CG (by omega)
 have h4:x.length≤4∧ ¬(limbs n).length≤4∨ ¬x.length≤4:=by omega
 rcases h4 with⟨h4,h5⟩|h4
 case' inl=>
  simp -implicitDefEqProofs[jJ,-qA,-qB,-qC,-qD,-qE,hne,h4,h5];refine⟨⟨by omega,by omega⟩,?_⟩
 case' inr=>
  simp -implicitDefEqProofs[jJ,-qA,-qB,-qC,-qD,-qE,hne,h4];refine⟨⟨by omega,by omega⟩,?_⟩
 all_goals
  refine CE [(7,60)] (fun p:Nat×Option (List Nat)=>match p.2 with
   |none=>⟨[(0,vC (.d (Ad x))),(1,vC (.d (Ad (limbs n)))),(9,vI .i64 ((p.1:Int) - 1)),(7,vC (.sl 7 0 0)),(8,vC (.sl 8 0 0))],[(7,.row 1 [] true),(8,.row 1 [] true)]⟩
   |some q=>⟨[(0,vC (.d (Ad x))),(1,vC (.d (Ad (limbs n)))),(9,vI .i64 ((p.1:Int) - 1)),(7,vC (.sl 7 0 q.length)),(8,vC (.d (Ad (limbs (val (x.drop p.1)%n)))))],[(7,.row 1 (q.map u16) true)]⟩)
   (fun p=>p.1≤x.length∧match p.2 with|none=>p.1=x.length|some q=>Ok q∧val q=val (x.drop p.1)/n∧q.length+p.1=x.length) (fun p=>p.1) (x.length,none)
   (by simp[AW,lk,St.le,vI,vC]) ⟨AO _,rfl⟩ ?_
  rintro⟨i,o⟩ ⟨g1,g2⟩
  simp only at g1;rcases i with _|i
  ·rcases o with _|q
   ·simp only at g2;have hx0:x=[]:=jzv.1 g2.symm;have hm0:m=0:=by rw[←vx,hx0];rfl
    simp -implicitDefEqProofs[jJ,-qA,-qB,-qC,-qD,-qE]
    (first|refine Ac (kn [] Ok.nil (by simp)) ?_|refine Ae (kn [] Ok.nil (by simp)) ?_)
    simp -implicitDefEqProofs[jJ,-qA,-qB,-qC,-qD,-qE,hm0,KN];rfl
   ·simp only at g2;obtain⟨g2,g3,g4⟩:=g2;rw[List.drop_zero,vx]at g3;simp -implicitDefEqProofs[jJ,-qA,-qB,-qC,-qD,-qE,vx]
    (first|refine Ac (kn q g2 (by omega)) ?_|refine Ae (kn q g2 (by omega)) ?_)
    simp -implicitDefEqProofs[jJ,-qA,-qB,-qC,-qD,-qE,g3]
  ·have hi:i<x.length:=g1;obtain⟨s1,s2,s3,s4,s5,s6⟩:=hstep i hi _ rfl;have hd:=hdrop i hi;obtain⟨xi,hxi⟩:=EI (a:=x) (n:=i) hi;have hxe:x[i]=xi:=by
    rw[AD hi]at hxi
    exact Bi hxi
   rw[hxe]at s1 s2 s3 s4 s5 s6 hd
   have hxl:=ox.get hxi;generalize hV:val (x.drop (i+1))=V at*;have hW:V%n<n:=Nat.mod_lt _ (by omega)
   rw[←hd]at s3 s4
   have hlW:=hlW _ hW;have hlR:(limbs (xi+65536*(V%n))).length≤70368744177001:=by
    have:=Bu (xi::limbs (V%n)) ((Aw _).cons hxl)
    rw[val,Az]at this
    simp only[List.length_cons]at this;omega
   have k1:=kn (xi::limbs (V%n)) ((Aw _).cons hxl) (by simp only[List.length_cons];omega)
   rw[val,Az]at k1
   have k2:=kd (xi+65536*(V%n)) (by omega) s1
   have k3:=kO _ s2;have k4:=kM _ s2;have k5:=kS _ _ (by omega) s2 s5
   generalize xi+65536*(V%n)=R at*;generalize hD:R/n=d at*;rcases o with _|q
   ·simp only at g2;have hV0:V=0:=by rw[←hV,g2,List.drop_length];rfl
    subst hV0;rw[Nat.zero_mod,Cm]at k1;have e8:val (x.drop i)%n=R - n*d:=s4;have hq:Ok [d]:=Ok.nil.cons s2;have hv:val [d]=val (x.drop i)/n:=by rw[s3,Nat.zero_div];rfl
    have hlen:[d].length+i=x.length:=by simp;omega
    clear s1 s3 s4 s6 hd hV;simp -implicitDefEqProofs[jJ,-qA,-qB,-qC,-qD,-qE,hxi,u16];refine⟨hi,?_⟩
    (first|refine Ac k1 ?_|refine Ae k1 ?_)
    simp -implicitDefEqProofs[jJ,-qA,-qB,-qC,-qD,-qE]
    (first|refine Ac k2 ?_|refine Ae k2 ?_)
    simp -implicitDefEqProofs[jJ,-qA,-qB,-qC,-qD,-qE]
    (first|refine Ac k3 ?_|refine Ae k3 ?_)
    simp -implicitDefEqProofs[jJ,-qA,-qB,-qC,-qD,-qE]
    (first|refine Ac k4 ?_|refine Ae k4 ?_)
    simp -implicitDefEqProofs[jJ,-qA,-qB,-qC,-qD,-qE]
    (first|refine Ac k5 ?_|refine Ae k5 ?_)
    simp -implicitDefEqProofs[jJ,-qA,-qB,-qC,-qD,-qE,u16,AX s2];exact⟨⟨by omega,by omega⟩,i,some [d],by simp[AW,lk,vI,vC,e8,u16],⟨by omega,hq,hv,hlen⟩,by omega⟩
   ·obtain⟨g2,g3,g4⟩:=g2
    have e8:val (x.drop i)%n=R - n*d:=s4
    have hq:Ok (d::q):=g2.cons s2;have hv:val (d::q)=val (x.drop i)/n:=by rw[s3,←g3];rfl
    have hlen:(d::q).length+i=x.length:=by simp only[List.length_cons];simp only at g4;omega
    clear s1 s3 s4 s6 hd hV;simp -implicitDefEqProofs[jJ,-qA,-qB,-qC,-qD,-qE,hxi,u16];refine⟨hi,⟨by omega,by omega⟩,.inl ⟨by omega,?_⟩⟩
    have a1:D.slice (1+(limbs (V%n)).length) (List.take (1+(limbs (V%n)).length) (D.int IntKind.u16 xi::List.map u16 (limbs (V%n))))=Ad (xi::limbs (V%n)):=by
     rw[Nat.add_comm,Ba (by simp)]
     rfl
    rw[a1]
    (first|refine Ac k1 ?_|refine Ae k1 ?_)
    simp -implicitDefEqProofs[jJ,-qA,-qB,-qC,-qD,-qE]
    (first|refine Ac k2 ?_|refine Ae k2 ?_)
    simp -implicitDefEqProofs[jJ,-qA,-qB,-qC,-qD,-qE];refine⟨by simp only[List.length_cons]at hlen;omega,?_⟩
    (first|refine Ac k3 ?_|refine Ae k3 ?_)
    simp -implicitDefEqProofs[jJ,-qA,-qB,-qC,-qD,-qE]
    (first|refine Ac k4 ?_|refine Ae k4 ?_)
    simp -implicitDefEqProofs[jJ,-qA,-qB,-qC,-qD,-qE]
    (first|refine Ac k5 ?_|refine Ae k5 ?_)
    simp -implicitDefEqProofs[jJ,-qA,-qB,-qC,-qD,-qE,u16,AX s2];exact⟨⟨by omega,by omega⟩,i,some (d::q),by simp[AW,lk,vI,vC,e8,u16,Nat.add_comm],⟨by omega,hq,hv,hlen⟩,by omega⟩
theorem Ku(a b:List Nat)(ha:Ok a)(hl:a.length≤70368744177000)(hb:Ok b)(hm:b.length≤70368744177000):
  CallsF Tryz.prog 203 [.c (Ad a),.c (Ad b)] (.u (.c (.d (Ad (limbs (Nat.gcd (val a) (val b))))))):=by
 refine cO Tryz.func203 rfl ?_;simp -implicitDefEqProofs[jJ,-qA,-qB,-qC,-qD,-qE]
 (first|refine Ac (CM a ha (by omega)) ?_|refine Ae (CM a ha (by omega)) ?_)
 simp -implicitDefEqProofs[jJ,-qA,-qB,-qC,-qD,-qE]
 (first|refine Ac (CM b hb (by omega)) ?_|refine Ae (CM b hb (by omega)) ?_)
 simp -implicitDefEqProofs[jJ,-qA,-qB,-qC,-qD,-qE];have la:=Bu a ha;have lb:=Bu b hb;have l1:(limbs (val a)).length≤70368744177000:=by omega
 have l2:(limbs (val b)).length≤70368744177000:=by omega
 clear hl hm ha hb la lb;generalize val a=m at*;generalize val b=n at*;refine AV (fun p:Nat×Nat=>⟨[(0,vC (.d (Ad (limbs p.1)))),(1,vC (.d (Ad (limbs p.2))))],[]⟩) (fun p=>Nat.gcd p.1 p.2=Nat.gcd m n∧(limbs p.1).length≤70368744177000∧(limbs p.2).length≤70368744177000) (fun p=>p.2) (m,n) (by simp) ⟨rfl,l1,l2⟩ ?_
 rintro⟨x,y⟩ ⟨g1,g2,g3⟩
 simp only at g1 g2 g3;by_cases h0:y=0
 ·subst h0;simp -implicitDefEqProofs[jJ,-qA,-qB,-qC,-qD,-qE,Cm];rw[←g1,Nat.gcd_zero_right]
 ·have hp:0<(limbs y).length:=limbs_pos_len.2 (by omega)
  have d:=ID (limbs x) (limbs y) (Aw _) g2 (Aw _) g3 (by rw[Az];exact h0)
  rw[Az,Az]at d
  have hml:(limbs (x%y)).length≤70368744177000:=Nat.le_trans (CG (Nat.le_of_lt (Nat.mod_lt _ (by omega)))) g3
  simp -implicitDefEqProofs[jJ,-qA,-qB,-qC,-qD,-qE,hp]
  (first|refine Ac d ?_|refine Ae d ?_)
  simp -implicitDefEqProofs[jJ,-qA,-qB,-qC,-qD,-qE];refine⟨y,x%y,⟨rfl,rfl⟩,⟨?_,g3,hml⟩,Nat.mod_lt _ (by omega)⟩
  rw[Nat.gcd_comm,←Nat.gcd_rec,Nat.gcd_comm,g1]
theorem jcD(a:List Nat):CallsF Tryz.prog 200 [.c (Ad a)] (.u (.agg [.d (.bool false),.d (Ad a)])):=by
 refine cO Tryz.func200 rfl ?_;simp -implicitDefEqProofs[jJ,-qA,-qB]
theorem Ix(neg:Bool)(m d:Nat)(hm:m<340282366920938463463374607431768211456)(hd:d<340282366920938463463374607431768211456)(h0:d≠0)(hg:Nat.gcd m d=1):
  CallsF Tryz.prog 125 [.agg [.bool neg,Ad (limbs m)],.c (Ad (limbs d))] (.u (.agg [.d (.bool (sg neg m)),.d (Ad (limbs m)),.d (Ad (limbs d))])):=by
 refine cO Tryz.func125 rfl ?_;have lm:=BP hm;have ld:=BP hd;have n1:=CM (limbs d) (Aw _) (by omega)
 have g:=Ku (limbs m) (limbs d) (Aw _) (by omega) (Aw _) (by omega)
 have q1:=ID (limbs m) (limbs 1) (Aw _) (by omega) (Aw _) (by decide) (by rw[Az];omega)
 have q2:=ID (limbs d) (limbs 1) (Aw _) (by omega) (Aw _) (by decide) (by rw[Az];omega)
 have n2:=IS neg (limbs m) (Aw _) (by omega)
 rw[Az,Az,hg]at g
 rw[Az]at n1 n2
 rw[Az,Az,Nat.div_one,Nat.mod_one]at q1 q2
 have hne:limbs d≠[]:=fun h=>h0 (limbs_nil.1 h)
 simp -implicitDefEqProofs[jJ,-qA,-qB];refine Ac n1 ?_;simp -implicitDefEqProofs[jJ,-qA,-qB,hne];refine Ac g ?_;simp -implicitDefEqProofs[jJ,-qA,-qB];refine Ac q1 ?_;simp -implicitDefEqProofs[jJ,-qA,-qB];refine Ac q2 ?_;simp -implicitDefEqProofs[jJ,-qA,-qB];refine Ac n2 ?_;simp -implicitDefEqProofs[jJ,-qA,-qB,AU]
theorem I2(neg:Bool)(m d:Nat)(hm:m<340282366920938463463374607431768211456)(hd:d<340282366920938463463374607431768211456)(h0:d≠0)(hg:Nat.gcd m d=1):
  CallsF Tryz.prog 138 [.agg [.bool neg,Ad (limbs m),Ad (limbs d)]] (.u (.agg [.d (.bool (sg neg m)),.d (Ad (limbs m)),.d (Ad (limbs d))])):=by
 refine cO Tryz.func138 rfl ?_;simp -implicitDefEqProofs[jJ,-qA,-qB];refine Ac (Ix neg m d hm hd h0 hg) ?_
 simp -implicitDefEqProofs[jJ,-qA,-qB]
theorem jiY(na nb:Bool)(m d n e:Nat)(hm:m<340282366920938463463374607431768211456)(hd:d<340282366920938463463374607431768211456)(h0:d≠0)(hg:Nat.gcd m d=1)(hn:n<340282366920938463463374607431768211456)(he:e<340282366920938463463374607431768211456)(e0:e≠0)(hh:Nat.gcd n e=1):
  CallsF Tryz.prog 122 [.agg [.bool na,Ad (limbs m),Ad (limbs d)],.agg [.bool nb,Ad (limbs n),Ad (limbs e)]] (.u (.c (.d (.int .i64 (Nk (LG na m*e) (LG nb n*d)))))):=by
 refine cO Tryz.func122 rfl ?_;have lm:=BP hm;have ld:=BP hd;have ln:=BP hn;have le:=BP he;have b1:=Cp (limbs m) (limbs e) (Aw _) (Aw _);have b2:=Cp (limbs n) (limbs d) (Aw _) (Aw _);have m1:=Z5 (sg na m) false (limbs m) (limbs e) (Aw _) (by omega) (Aw _) (by omega) (by omega)
 have m2:=Z5 (sg nb n) false (limbs n) (limbs d) (Aw _) (by omega) (Aw _) (by omega) (by omega)
 rw[Az,Az]at m1 m2 b1 b2
 have k:=jgf (sg (sg na m) (m*e)) (sg (sg nb n) (n*d)) (limbs (m*e)) (limbs (n*d)) (Aw _) (by omega) (Aw _) (by omega)
 rw[Az,Az,QP,QP,jcw,jcw,QP,QP]at k
 simp -implicitDefEqProofs[jJ,-qA,-qB];refine AA (Ah [0,1,0,7,15,31]) [.any [] [] (Aq [[2],[5],[3]]),.one,.one,.one] (by rfl) ?_
 simp -implicitDefEqProofs[jJ,-qA,-qB];refine Ae (I2 na m d hm hd h0 hg) ?_;simp -implicitDefEqProofs[jJ,-qA,-qB];refine Ac (I2 nb n e hn he e0 hh) ?_;simp -implicitDefEqProofs[jJ,-qA,-qB];refine AA (Ah [0,1,0,4,12,31,0,64,0,256,831,2047,4095,8191]) [.any [] [] (Aq [[2],[9],[3],[11],[12],[10,13],[3],[15],[2],[17],[18]]),.one,.one,.one] (by rfl) ?_
 simp -implicitDefEqProofs[jJ,-qA,-qB];refine Ae (jcD (limbs e)) ?_;simp -implicitDefEqProofs[jJ,-qA,-qB];refine Ae m1 ?_;simp -implicitDefEqProofs[jJ,-qA,-qB,AU];refine Ae (jcD (limbs d)) ?_;simp -implicitDefEqProofs[jJ,-qA,-qB];refine Ac m2 ?_;simp -implicitDefEqProofs[jJ,-qA,-qB,AU];refine Ac k ?_;simp -implicitDefEqProofs[jJ,-qA,-qB]
end Go.Va
namespace Go.Va
open Go.Proofs

end Go.Va
namespace Go.Va
open Int renaming natCast_add → qA, natCast_mul → qB, natCast_emod → qC, natCast_ediv → qD, natCast_pow → qE
open List renaming reduceReplicate → qF
open Go.Proofs
structure Fct where
 kind:Int
 args:List Int
 neg:Bool
 abs:List Nat
 den:List Nat
 deriving DecidableEq
@[simp]def Fct.ds(f:Fct):List D:=[.int .i64 f.kind,AT f.args,.bool f.neg,Ad f.abs,Ad f.den]
def arity(k:Int):Nat:=if k=1∨k=5 then 3 else if k=2∨k=3∨k=4∨k=6∨k=9 then 4 else if k=7 then 8 else if k=8 then 2 else 0
theorem jj5(k:Int):CallsF Tryz.prog 175 [.c (.int .i64 k)] (.u (.c (.d (.int .i64 (arity k))))):=by
 refine cO Tryz.func175 rfl ?_;by_cases h1:k=1
 ·subst h1;simp -implicitDefEqProofs[jJ,-qA,-qB,arity]
 by_cases h2:k=2
 ·subst h2;simp -implicitDefEqProofs[jJ,-qA,-qB,arity]
 by_cases h3:k=3
 ·subst h3;simp -implicitDefEqProofs[jJ,-qA,-qB,arity]
 by_cases h4:k=4
 ·subst h4;simp -implicitDefEqProofs[jJ,-qA,-qB,arity]
 by_cases h5:k=5
 ·subst h5;simp -implicitDefEqProofs[jJ,-qA,-qB,arity]
 by_cases h6:k=6
 ·subst h6;simp -implicitDefEqProofs[jJ,-qA,-qB,arity]
 by_cases h7:k=7
 ·subst h7;simp -implicitDefEqProofs[jJ,-qA,-qB,arity]
 by_cases h8:k=8
 ·subst h8;simp -implicitDefEqProofs[jJ,-qA,-qB,arity]
 by_cases h9:k=9
 ·subst h9;simp -implicitDefEqProofs[jJ,-qA,-qB,arity]
 simp -implicitDefEqProofs[jJ,-qA,-qB,arity,h1,h2,h3,h4,h5,h6,h7,h8,h9]
def DP(neg:Bool)(a b:List Nat):Bool:= !neg&&decide (a=[])&&decide (b=[])
theorem Y8(neg:Bool)(a b:List Nat):CallsF Tryz.prog 183 [.agg [.bool neg,Ad a,Ad b]] (.u (.c (.d (.bool (DP neg a b))))):=by
 refine cO Tryz.func183 rfl ?_;cases neg<;>cases a<;>cases b<;>simp -implicitDefEqProofs[jJ,-qA,-qB,DP]
def wrong(f:Fct)(n:Int):Int:=
 if arity f.kind=0 then 8 else if f.args.length≠arity f.kind then 1 else if f.args.any (fun a=>decide (a<0)||decide (n≤a)) then 2
 else if (if f.kind=9 then CV f.neg f.abs f.den else DP f.neg f.abs f.den) then 0 else 1
structure Fct.Mild (f:Fct):Prop where
 la:f.abs.length≤8
 ld:f.den.length≤8
 oa:Ok f.abs
 od:Ok f.den
 ln:f.args.length≤1099511627776
structure Fct.Wide (f:Fct):Prop where
 la:f.abs.length≤300
 ld:f.den.length≤300
 oa:Ok f.abs
 od:Ok f.den
 ln:f.args.length≤1099511627776
theorem Fct.Mild.wide{f:Fct}(h:f.Mild):f.Wide:=⟨by have:=h.la;omega,by have:=h.ld;omega,h.oa,h.od,h.ln⟩
theorem Lq{l:List Int}{p:Int→Bool}{i:Nat}(h:i<l.length):(l.drop i).any p=(p l[i]||(l.drop (i+1)).any p):=by
 rw[BQ h,List.any_cons]
theorem jlL(f:Fct)(hf:f.Wide)(n:Int):CallsF Tryz.prog 100 [.agg f.ds,.c (.int .i64 n)] (.u (.c (.d (.int .i64 (wrong f n))))):=by
 refine cO Tryz.func100 rfl ?_;obtain⟨kind,args,neg,abs,den⟩:=f;obtain⟨la,ld,oa,od,ln⟩:=hf;simp only at la ld oa od ln;simp only[Fct.ds,wrong];simp -implicitDefEqProofs[jJ,-qA,-qB];refine Ac (jj5 kind) ?_
 generalize arity kind=ar at*;by_cases h1:ar=0
 ·simp -implicitDefEqProofs[jJ,-qA,-qB,h1]
 by_cases h2:args.length=ar
 ·simp -implicitDefEqProofs[jJ,-qA,-qB,h1,h2];refine AV (fun i:Nat=>⟨[(21,vI .i64 i),(20,vI .i64 (ar:Nat)),(19,vC (.d (AT args))),(2,vC (.ptr 2 0)),(1,vI .i64 n)],[(2,.box [.d (.int .i64 kind),.d (AT args),.d (.bool neg),.d (Ad abs),.d (Ad den)])]⟩) (fun i=>i≤args.length∧(args.drop i).any (fun a=>decide (a<0)||decide (n≤a))=args.any (fun a=>decide (a<0)||decide (n≤a))) (fun i=>args.length - i) 0 (by simp) ⟨by omega,rfl⟩ ?_
  rintro i ⟨h3,h4⟩
  by_cases h:i<args.length
  ·have e:=Lq (p:=fun a=>decide (a<0)||decide (n≤a)) h
   have hk:i<ar:=by omega
   rw[e]at h4
   by_cases h5:args[i]<0
   ·simp -implicitDefEqProofs[jJ,-qA,-qB,h,hk,h5,i64];intro hh;have:=hh _ (AZ h);omega
   ·by_cases h6:n≤args[i]
    ·simp -implicitDefEqProofs[jJ,-qA,-qB,h,hk,h5,h6,i64];intro hh;have:=hh _ (AZ h);omega
    ·simp -implicitDefEqProofs[jJ,-qA,-qB,h,hk,h5,h6,i64];simp only[decide_eq_false h5,decide_eq_false h6,Bool.false_or]at h4;exact⟨by omega,⟨by omega,h4⟩,by omega⟩
  ·have hk: ¬i<ar:=by omega
   have e:i=args.length:=by omega
   rw[e,List.drop_length]at h4
   have h4': ∀x∈args,0≤x∧x<n:=by simpa using h4.symm
   rw[←h4]
   have k1:=PB neg abs den oa (by omega) od (by omega)
   have k2:=Y8 neg abs den;by_cases h9:kind=9
   ·simp -implicitDefEqProofs[jJ,-qA,-qB,hk,h9];refine Ac k1 ?_;cases CV neg abs den<;>simp -implicitDefEqProofs[jJ,-qA,-qB]<;>exact h4'
   ·simp -implicitDefEqProofs[jJ,-qA,-qB,hk,h9];refine Ac k2 ?_;cases DP neg abs den<;>simp -implicitDefEqProofs[jJ,-qA,-qB]<;>exact h4'
 ·simp -implicitDefEqProofs[jJ,-qA,-qB,h1,h2]
end Go.Va
namespace Go.Va
open Go.Proofs Go.ChangeShapes Go.WideShapes Go.ChangeAt Go.RowKit
section
variable {H:Type} {enc:TypeId×Value→H} {w:World} {base:Nat} {sp:Nat→Bool} {hd:Bool}
abbrev Z0:Addr→Prop:=fun _=>False
theorem Uk{e:D→Prop}{a:Addr}{len cap:Nat}{zs:List Int}{k:IntKind}(hl:len≤cap)(hm:cap≤maxLen)(hz:len≤zs.length)(hc: ∀i,i<zs.length→w.cell? (a.add i)=some (.int k (zs.getD i 0))):
  RepD w Z0 (.slice len ((zs.take len).map (D.int k))) (.slice (some a) len cap):=by
 have key: ∀(j:Nat) (x:D),((zs.take len).map (D.int k))[j]? =some x→j<len∧x= .int k (zs.getD j 0):=fun j x hj=>by
  rw[Bf,List.getElem?_take]at hj
  by_cases h:j<len
  ·rw[if_pos h,AD (by omega)]at hj
   refine⟨h,?_⟩
   rw[AL,AD (by omega)]
   exact(Bi hj).symm
  ·rw[if_neg h]at hj
   cases hj
 have hspot:0<len→a.spot=none:=fun h=>by
  have:=hc 0 (by omega)
  unfold Addr.add at this;rw[if_pos rfl]at this;unfold World.cell? at this;split at this
  ·split at this
   ·cases this
   ·rename_i hn
    simpa using hn
  ·cases this
 refine .slice len _ a cap (fun j=> .int k (zs.getD j 0)) (fun hne=> ?_) hl hm (fun j x hj=> ?_) (fun j x hj h=>h) (fun j x hj=> ?_)
 ·obtain⟨x,hx⟩:=List.exists_mem_of_ne_nil _ hne
  obtain⟨j,hj⟩:=List.getElem?_of_mem hx
  have:=(key j x hj).1
  exact hspot (by omega)
 ·have hk:=key j x hj;have h1:=hc j (by omega)
  have h2:=hspot (by omega)
  have:a.add j=⟨a.block,a.off+j,none⟩:=by
   unfold Addr.add;split
   ·rename_i h0
    subst h0;obtain⟨b,o,s⟩:=a;simp only at h2;subst h2;rfl
   ·rfl
  rw[←this]
  exact h1
 ·rw[(key j x hj).2]
  exact .int _ _
theorem Rs{fuel:Nat}{cs:List Value}{x:DataW H×List MemPlace}(h:DataW.trod enc Tryz.prog w base sp hd fuel 35 cs=some x): ∃(l:List Int) (v:Value),cs=[v]∧RepD w Z0 (AT l) v:=by
 rcases open_ints (k:= .i64) Tryz.underlying35 Tryz.underlying3 (by kernel_rfl) h with⟨rfl,_⟩|⟨a,len,cap,zs,rfl,_,h1,h2,h3,_,h4,_⟩
 ·exact⟨[],_,rfl,.snil⟩
 ·have hz:len≤zs.length:=by rw[h3];split<;>omega
  refine⟨zs.take len,_,rfl,?_⟩
  have:=Uk (e:=fun _=>True) h1 h2 hz h4
  have e:(AT (zs.take len))= .slice len ((zs.take len).map (D.int .i64)):=by
   show D.slice _ _=_
   rw[A8,Bs hz]
   rfl
  rw[e]
  exact this
theorem Ph{fuel:Nat}{cs:List Value}{x:DataW H×List MemPlace}(h:DataW.trod enc Tryz.prog w base sp hd fuel 37 cs=some x): ∃(l:List Nat) (v:Value),Ok l∧cs=[v]∧RepD w Z0 (Ad l) v:=by
 rcases open_ints (k:= .u16) Tryz.underlying37 (by kernel_rfl:Tryz.prog.underlying _=_) (by kernel_rfl) h with⟨rfl,_⟩|⟨a,len,cap,zs,rfl,_,h1,h2,h3,_,h4,h5⟩
 ·exact⟨[],_,Ok.nil,rfl,.snil⟩
 ·have hz:len≤zs.length:=by rw[h3];split<;>omega
  have hb: ∀n∈zs,0≤n∧n<65536:=fun n hn=>by
   have:=h5 n hn
   simp[Lit.wf,IntKind.min,IntKind.max,IntKind.signed,IntKind.bits]at this
   omega
  refine⟨(zs.take len).map Int.toNat,_,fun y hy=> ?_,rfl,?_⟩
  ·obtain⟨n,hn,rfl⟩:=jzk.1 hy
   have:=hb n (List.mem_of_mem_take hn)
   omega
  ·have:=Uk (e:=fun _=>True) h1 h2 hz h4
   have e:Ad ((zs.take len).map Int.toNat)= .slice len ((zs.take len).map (D.int .u16)):=by
    show D.slice _ _=_
    rw[List.length_map,A8,Bs hz,List.map_map]
    congr 1
    refine List.map_congr_left fun n hn=> ?_
    have:=hb n (List.mem_of_mem_take hn)
    show D.int .u16 ((n.toNat:Nat):Int)=_
    rw[Int.toNat_of_nonneg this.1]
   rw[e]
   exact this
structure InFact (f:Fct):Prop where
 oa:Ok f.abs
 od:Ok f.den
theorem Tb{P:Program}(hl:laidOutB P=true){W W':World}(hb:Below W.heap.size W W'): ∀{ts:List TypeId} {vs:List Value} {ds:List (DataW H)} {ps:List MemPlace},
  (∀t∈ts,P.readableRec t=true∧t<P.types.size)→DataW.TrodAll enc P W 0 (fun _=>true) true ts vs ds ps→(∀x∈ps,x.block<W.heap.size)→DataW.TrodAll enc P W' 0 (fun b=>decide (b<W.heap.size)) true ts vs ds ps
 |[],vs,ds,ps,_,h,_=>by
  obtain⟨rfl,rfl,rfl⟩:=trodAll_nil h
  rfl
 |t::ts,vs,ds,ps,ht,h,hlt=>by
  obtain⟨v,vs',d,ds',p,q,rfl,rfl,rfl,h1,h2⟩:=trodAll_cons h
  have:=ht t (by simp)
  exact trodAll_cons_mk (Below.trod hl this.1 this.2 h1 hb (fun x hx=>hlt x (by simp[hx]))) (Tb hl hb (fun t' h'=>ht t' (by simp[h'])) h2 (fun x hx=>hlt x (by simp[hx])))
end
theorem WY:laidOutB Tryz.prog=true:=by kernel_rfl
theorem jbF:ownKnob Tryz.prog.godebug=none:=by kernel_rfl
end Go.Va
namespace Go.Va
open Go.Proofs
section
variable {α:Type} {k:Nat} {e:α→List D} (he: ∀x,(e x).length=k)
include he
theorem Qw(l:List α):(l.flatMap e).length=l.length*k:=by
 induction l with
 |nil=>simp
 |cons a l ih=>rw[List.flatMap_cons,List.length_append,he,ih,List.length_cons,Nat.add_mul,Nat.one_mul,Nat.add_comm]
theorem jdj(l:List α)(i:Nat):(l.flatMap e).drop (i*k)=(l.drop i).flatMap e:=by
 induction l generalizing i with
 |nil=>simp
 |cons a l ih=>
  cases i with
  |zero=>simp
  |succ i=>
   rw[List.flatMap_cons,List.drop_succ_cons,List.drop_append,DU (by rw[he,Nat.add_mul];omega),he,List.nil_append,Nat.add_mul,Nat.one_mul,Nat.add_sub_cancel,ih]
theorem Ic(l:List α)(i:Nat)(h:i<l.length):((l.flatMap e).drop (i*k)).take k=e l[i]:=by
 rw[jdj he,BQ h,List.flatMap_cons,List.take_append,Ba (by rw[he];omega),he,Nat.sub_self]
 simp
end
theorem Fct.ds_len(f:Fct):f.ds.length=5:=rfl
def lo(a b:Int):Int:=if b<a then b else a
def hi(a b:Int):Int:=if a<b then b else a
def oth(a b p:Int):Int:=a+b - p
end Go.Va
namespace Go.Va
def CB{α:Type}(p:α→Bool)(l:List α)(k:Nat):Prop:=(l.take k).all p=true
theorem HJ{α:Type}(p:α→Bool)(l:List α):CB p l 0:=by simp[CB]
theorem Iu{α:Type}{p:α→Bool}{l:List α}{k:Nat}(h:k<l.length)(hk:CB p l k)(h1:p l[k]=true):CB p l (k+1):=by
 unfold CB at*;rw[Cr h,List.all_append,hk];simp[h1]
theorem HZ{α:Type}{p:α→Bool}{l:List α}(h:CB p l l.length):l.all p=true:=by
 unfold CB at h
 rwa [BM]at h
theorem Is{α:Type}{p:α→Bool}{l:List α}{k:Nat}(h:k<l.length)(h1:p l[k]=false):l.all p=false:=by
 rw[Bool.eq_false_iff]
 intro hc;rw[jzy]at hc;rw[hc _ (AZ h)]at h1;cases h1
def Di(n:Int)(a:Int):Bool:=decide (a<0)||decide (n≤a)
def FE(n:Int)(l:List Int)(k:Nat):Prop:=(l.take k).any (Di n)=false
theorem jim(n:Int)(l:List Int):FE n l 0:=by simp[FE]
theorem jbJ{n:Int}{l:List Int}{k:Nat}(h:k<l.length)(hk:FE n l k)(h1: ¬l[k]<0)(h2: ¬n≤l[k]):FE n l (k+1):=by
 unfold FE at*;rw[Cr h,List.any_append,hk];simp[Di,h1,h2]
theorem jfJ{n:Int}{l:List Int}(h:FE n l l.length):l.any (Di n)=false:=by
 unfold FE at h
 rwa [BM]at h
theorem Rw{n:Int}{l:List Int}{k:Nat}(h:k<l.length)(h1:l[k]<0∨n≤l[k]):l.any (Di n)=true:=List.any_eq_true.2 ⟨_,AZ h,by simpa [Di]using h1⟩
end Go.Va
namespace Go.Va
open Go.Proofs
structure Grd where
 kind:Int
 args:List Int
 deriving DecidableEq
def Grd.ds(g:Grd):List D:=[.int .i64 g.kind,AT g.args]
theorem Grd.ds_len(g:Grd):g.ds.length=2:=rfl
def Dd(l:List Grd):D:= .slice l.length (l.flatMap Grd.ds)
theorem O1(l:List Grd)(i:Nat)(h:i<l.length):((l.flatMap Grd.ds).drop (i*2)).take 2=l[i].ds:=Ic Grd.ds_len l i h
@[simp high]theorem grd_len(l:List Grd):(l.flatMap Grd.ds).length=l.length*2:=Qw Grd.ds_len l
theorem L3(l:List Grd)(i:Nat)(h:i<l.length):((l.flatMap Grd.ds).map C.d|>.drop (i*2)).take 2=[.d (.int .i64 l[i].kind),.d (AT l[i].args)]:=by
 have:=O1 l i h
 rw[←List.map_drop,←List.map_take,this]
 rfl
end Go.Va
