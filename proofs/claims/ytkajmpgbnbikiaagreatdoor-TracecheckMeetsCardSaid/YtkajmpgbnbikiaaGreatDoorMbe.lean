/- a part of the proof -/
import Derived.Test.YtkajmpgbnbikiaaGreatDoorMbd
import Derived.Test.YtkajmpgbnbikiaaGreatDoorMao
import Derived.Test.YtkajmpgbnbikiaaGreatDoorMbc
set_option linter.all false
set_option maxHeartbeats 4000000
set_option maxRecDepth 10000
namespace Go.Va
open Int (natCast_add natCast_mul natCast_emod natCast_ediv natCast_pow)
open Go.Proofs
theorem cmp3_le{a b:Nat}:cmp3 a b≤0↔a≤b:=by
 unfold cmp3;split
 ·omega
 ·split<;>omega
theorem jdK(r b:List Nat)(hr:Ok r)(lr:r.length≤10000)(hb:Ok b)(lb:b.length≤10000)(h0:val b≠0)(hlt:val r<65536*val b):
  CallsF Tryz.prog 253 [.c (Ac r),.c (Ac b)] (.u (.c (.d (.int .u64 (val r/val b:Nat))))):=by
 have kO:=fun(m:Nat) (h:m<65536)=>FZ m (by omega)
 have kM:=fun(m:Nat) (h:m<65536)=>ID b (limbs m) hb (by omega) (An m) (by have:=B9 (n:=m) (by omega);omega)
 have kC:=fun(m:Nat) (h:m<65536)=>HL (limbs (val b*m)) r (An _) (by
  have:=CO b (limbs m) hb (An m)
  rw[Ao]at this
  have:=B9 (n:=m) (by omega)
  omega) hr (by omega)
 simp only[Ao]at kM kC;have kD:=fun(m:Nat) (h1:val b*m≤val r) (h2:val r<val b*(m+1))=>Nat.div_eq_of_lt_le (k:=m) (by rw[Nat.mul_comm];exact h1) (by rw[Nat.mul_comm];exact h2)
 have hi0:val r<val b*(65535+1):=by rw[Nat.mul_comm];exact hlt
 generalize val b=n at*;generalize val r=v at*;clear hlt hr hb;refine Ak (T:=tb) Ah mixed Tryz.func253 rfl (by decide) (Af rfl) rfl ?_;unfold St.init
 simp -implicitDefEqProofs[jJ,-natCast_add,-natCast_mul,-natCast_emod,-natCast_ediv,-natCast_pow];refine AF (fun p:Nat×Nat=>⟨[(0,vC (.d (Ac r))),(1,vC (.d (Ac b))),(5,vI .u64 p.1),(6,vI .u64 p.2)],[]⟩)
  (fun p=>p.1≤p.2∧p.2≤65535∧n*p.1≤v∧v<n*(p.2+1)) (fun p=>p.2 - p.1) (0,65535) (by simp[Aw,lk,St.le,vI,vC]) ⟨by omega,by omega,by omega,hi0⟩ ?_
 rintro⟨lo,hi⟩ ⟨h1,h2,h3,h4⟩
 simp only at h1 h2 h3 h4;by_cases hlt:lo<hi
 ·have hm1:(lo+hi+1)/2<65536:=by omega
  have kO:=kO _ hm1;have kM:=kM _ hm1;have kC:=kC _ hm1;have e1:(lo+hi)%18446744073709551616=lo+hi:=by omega
  have e2:(lo+hi+1)%18446744073709551616=lo+hi+1:=by omega
  have e3:(lo+hi+1)/2%18446744073709551616=(lo+hi+1)/2:=by omega
  have b1:lo<(lo+hi+1)/2:=by omega
  have b2:(lo+hi+1)/2≤hi:=by omega
  by_cases hle:n*((lo+hi+1)/2)≤v
  ·have hc:cmp3 (n*((lo+hi+1)/2)) v≤0:=cmp3_le.2 hle;simp -implicitDefEqProofs[jJ,-natCast_add,-natCast_mul,-natCast_emod,-natCast_ediv,-natCast_pow,hlt,e1,e2,e3];generalize (lo+hi+1)/2=mid at*
   (first|refine Ab kO ?_|refine Aa kO ?_)
   simp -implicitDefEqProofs[jJ,-natCast_add,-natCast_mul,-natCast_emod,-natCast_ediv,-natCast_pow]
   (first|refine Ab kM ?_|refine Aa kM ?_)
   simp -implicitDefEqProofs[jJ,-natCast_add,-natCast_mul,-natCast_emod,-natCast_ediv,-natCast_pow]
   (first|refine Ab kC ?_|refine Aa kC ?_)
   simp -implicitDefEqProofs[jJ,-natCast_add,-natCast_mul,-natCast_emod,-natCast_ediv,-natCast_pow,hc];exact⟨mid,hi,by simp[Aw,lk,St.le,vI,vC],⟨b2,h2,hle,h4⟩,by omega⟩
  ·have hc: ¬cmp3 (n*((lo+hi+1)/2)) v≤0:=fun h=>hle (cmp3_le.1 h)
   simp -implicitDefEqProofs[jJ,-natCast_add,-natCast_mul,-natCast_emod,-natCast_ediv,-natCast_pow,hlt,e1,e2,e3];generalize (lo+hi+1)/2=mid at*
   (first|refine Ab kO ?_|refine Aa kO ?_)
   simp -implicitDefEqProofs[jJ,-natCast_add,-natCast_mul,-natCast_emod,-natCast_ediv,-natCast_pow]
   (first|refine Ab kM ?_|refine Aa kM ?_)
   simp -implicitDefEqProofs[jJ,-natCast_add,-natCast_mul,-natCast_emod,-natCast_ediv,-natCast_pow]
   (first|refine Ab kC ?_|refine Aa kC ?_)
   simp -implicitDefEqProofs[jJ,-natCast_add,-natCast_mul,-natCast_emod,-natCast_ediv,-natCast_pow,hc];exact⟨lo,mid - 1,⟨rfl,by omega⟩,⟨by omega,by omega,h3,by rw[show mid - 1+1=mid by omega];omega⟩,by omega⟩
 ·obtain rfl:lo=hi:=by omega
  have:=kD lo h3 h4
  simp -implicitDefEqProofs[jJ,-natCast_add,-natCast_mul,-natCast_emod,-natCast_ediv,-natCast_pow];exact this.symm
theorem jdw{n W x:Nat}(hn:n≠0)(hW:W<n)(hx:x<65536)(V:Nat)(hV:V%n=W):
  x+65536*W<65536*n∧(x+65536*W)/n<65536∧(x+65536*V)/n=(x+65536*W)/n+65536*(V/n)∧(x+65536*V)%n=(x+65536*W) - n*((x+65536*W)/n)∧n*((x+65536*W)/n)≤x+65536*W∧(x+65536*W) - n*((x+65536*W)/n)<n:=by
 have h1:x+65536*W<65536*n:=by omega
 have hd:=Nat.div_add_mod V n;rw[hV]at hd;have e:x+65536*V=(x+65536*W)+n*(65536*(V/n)):=by
  have:n*(65536*(V/n))=65536*(n*(V/n)):=by rw[Nat.mul_left_comm]
  omega
 have hd2:=Nat.div_add_mod (x+65536*W) n;have hl:=Nat.mod_lt (x+65536*W) (show n>0 by omega)
 refine⟨h1,Nat.div_lt_of_lt_mul (by omega),?_,?_,by omega,by omega⟩
 ·rw[e,Nat.add_mul_div_left _ _ (by omega)]
 ·rw[e,Nat.add_mul_mod_self_left]
  omega
theorem LI(a b:List Nat)(ha:Ok a)(hl:a.length≤900)(hb:Ok b)(hm:b.length≤900)(h0:val b≠0):
  CallsF Tryz.prog 167 [.c (Ac a),.c (Ac b)] (.tup [.c (.d (Ac (limbs (val a/val b)))),.c (.d (Ac (limbs (val a%val b)))),.c (.d (.int .i64 0))]):=by
 by_cases hs:val a<18446744073709551616∧val b<18446744073709551616
 ·exact OF a b ha (by omega) hb (by omega) hs.1 hs.2 h0
 have n1:=B6 a ha (by omega)
 have n2:=B6 b hb (by omega)
 have la:=Bg a ha;have lb:=Bg b hb;generalize val a=m at*;generalize val b=n at*;have hne:limbs n≠[]:=fun h=>h0 (limbs_nil.1 h)
 have hx1:(limbs m).length≤900:=by omega
 have hy1:(limbs n).length≤900:=by omega
 have ox:=An m;have vx:=Ao m;have hlong: ¬((limbs m).length≤4∧(limbs n).length≤4):=fun h=>hs ⟨(Hz m).1 h.1,(Hz n).1 h.2⟩
 have kn:=fun o ho (hol:o.length≤1099511627776)=>B6 o ho hol
 have kd:=fun r (h1:(limbs r).length≤10000) (h2:r<65536*n)=>jdK (limbs r) (limbs n) (An r) h1 (An n) (by omega) (by rw[Ao];exact h0) (by rw[Ao,Ao];exact h2)
 have kO:=fun(d:Nat) (h:d<65536)=>FZ d (by omega)
 have kM:=fun(d:Nat) (h:d<65536)=>ID (limbs n) (limbs d) (An n) (by omega) (An d) (by have:=B9 (n:=d) (by omega);omega)
 have kS:=fun(r d:Nat) (h1:(limbs r).length≤100000) (h:d<65536) (h2:n*d≤r)=>LU (limbs r) (limbs (n*d)) (An r) h1 (An _) (by have:=Dq h2;omega) (by rw[Ao,Ao];exact h2)
 simp only[Ao]at kd kM kS;clear ha hb hl hm la lb hs;generalize limbs m=x at*;have fin: ∀q:List Nat,Ok q→val q=val x/n→limbs (val q)=limbs (m/n):=fun q _ h=>by rw[h,vx]
 have finW:val x%n=m%n:=by rw[vx]
 refine Ak (T:=tb) Ah mixed Tryz.func167 rfl (by decide) (Af rfl) rfl ?_;unfold St.init
 simp -implicitDefEqProofs[jJ,-natCast_add,-natCast_mul,-natCast_emod,-natCast_ediv,-natCast_pow]
 (first|refine Ab n1 ?_|refine Aa n1 ?_)
 simp -implicitDefEqProofs[jJ,-natCast_add,-natCast_mul,-natCast_emod,-natCast_ediv,-natCast_pow]
 (first|refine Ab n2 ?_|refine Aa n2 ?_)
 have hstep: ∀i (h:i<x.length) (W:Nat),val (x.drop (i+1))%n=W→_:=fun i h W hW=>jdw h0 (hW ▸ Nat.mod_lt _ (by omega)) (ox.get (Am h)) (val (x.drop (i+1))) hW
 have hdrop: ∀i (h:i<x.length),val (x.drop i)=x[i]+65536*val (x.drop (i+1)):=fun i h=>by rw[AX h];rfl
 have hlW: ∀W,W<n→(limbs W).length≤(limbs n).length:=fun W h=>Dq (by omega)
 have h4:x.length≤4∧ ¬(limbs n).length≤4∨ ¬x.length≤4:=by omega
 rcases h4 with⟨h4,h5⟩|h4
 case' inl=>
  simp -implicitDefEqProofs[jJ,-natCast_add,-natCast_mul,-natCast_emod,-natCast_ediv,-natCast_pow,hne,h4,h5];refine⟨⟨by omega,by omega⟩,?_⟩
 case' inr=>
  simp -implicitDefEqProofs[jJ,-natCast_add,-natCast_mul,-natCast_emod,-natCast_ediv,-natCast_pow,hne,h4];refine⟨⟨by omega,by omega⟩,?_⟩
 all_goals
  refine CJ [(7,60)] (fun p:Nat×Option (List Nat)=>match p.2 with
   |none=>⟨[(0,vC (.d (Ac x))),(1,vC (.d (Ac (limbs n)))),(9,vI .i64 ((p.1:Int) - 1)),(7,vC (.sl 7 0 0)),(8,vC (.sl 8 0 0))],[(7,.row 1 [] true),(8,.row 1 [] true)]⟩
   |some q=>⟨[(0,vC (.d (Ac x))),(1,vC (.d (Ac (limbs n)))),(9,vI .i64 ((p.1:Int) - 1)),(7,vC (.sl 7 0 q.length)),(8,vC (.d (Ac (limbs (val (x.drop p.1)%n)))))],[(7,.row 1 (q.map u16) true)]⟩)
   (fun p=>p.1≤x.length∧match p.2 with|none=>p.1=x.length|some q=>Ok q∧val q=val (x.drop p.1)/n∧q.length+p.1=x.length) (fun p=>p.1) (x.length,none)
   (by simp[Aw,lk,St.le,vI,vC]) ⟨Az _,rfl⟩ ?_
  rintro⟨i,o⟩ ⟨g1,g2⟩
  simp only at g1;rcases i with _|i
  ·rcases o with _|q
   ·simp only at g2;have hx0:x=[]:=jzv.1 g2.symm;have hm0:m=0:=by rw[←vx,hx0];rfl
    simp -implicitDefEqProofs[jJ,-natCast_add,-natCast_mul,-natCast_emod,-natCast_ediv,-natCast_pow]
    (first|refine Ab (kn [] Ok.nil (by simp)) ?_|refine Aa (kn [] Ok.nil (by simp)) ?_)
    simp -implicitDefEqProofs[jJ,-natCast_add,-natCast_mul,-natCast_emod,-natCast_ediv,-natCast_pow,hm0,KK];rfl
   ·simp only at g2;obtain⟨g2,g3,g4⟩:=g2;rw[List.drop_zero,vx]at g3;simp -implicitDefEqProofs[jJ,-natCast_add,-natCast_mul,-natCast_emod,-natCast_ediv,-natCast_pow,vx]
    (first|refine Ab (kn q g2 (by omega)) ?_|refine Aa (kn q g2 (by omega)) ?_)
    simp -implicitDefEqProofs[jJ,-natCast_add,-natCast_mul,-natCast_emod,-natCast_ediv,-natCast_pow,g3]
  ·have hi:i<x.length:=g1;obtain⟨s1,s2,s3,s4,s5,s6⟩:=hstep i hi _ rfl;have hd:=hdrop i hi;obtain⟨xi,hxi⟩:=EN (a:=x) (n:=i) hi;have hxe:x[i]=xi:=by
    rw[Am hi]at hxi
    exact AK hxi
   rw[hxe]at s1 s2 s3 s4 s5 s6 hd
   have hxl:=ox.get hxi;generalize hV:val (x.drop (i+1))=V at*;have hW:V%n<n:=Nat.mod_lt _ (by omega)
   rw[←hd]at s3 s4
   have hlW:=hlW _ hW;have hlR:(limbs (xi+65536*(V%n))).length≤901:=by
    have:=Bg (xi::limbs (V%n)) ((An _).cons hxl)
    rw[val,Ao]at this
    simp only[List.length_cons]at this;omega
   have k1:=kn (xi::limbs (V%n)) ((An _).cons hxl) (by simp only[List.length_cons];omega)
   rw[val,Ao]at k1
   have k2:=kd (xi+65536*(V%n)) (by omega) s1
   have k3:=kO _ s2;have k4:=kM _ s2;have k5:=kS _ _ (by omega) s2 s5
   generalize xi+65536*(V%n)=R at*;generalize hD:R/n=d at*;rcases o with _|q
   ·simp only at g2;have hV0:V=0:=by rw[←hV,g2,List.drop_length];rfl
    subst hV0;rw[Nat.zero_mod,Cc]at k1;have e8:val (x.drop i)%n=R - n*d:=s4;have hq:Ok [d]:=Ok.nil.cons s2;have hv:val [d]=val (x.drop i)/n:=by rw[s3,Nat.zero_div];rfl
    have hlen:[d].length+i=x.length:=by simp;omega
    clear s1 s3 s4 s6 hd hV;simp -implicitDefEqProofs[jJ,-natCast_add,-natCast_mul,-natCast_emod,-natCast_ediv,-natCast_pow,hxi,u16];refine⟨hi,?_⟩
    (first|refine Ab k1 ?_|refine Aa k1 ?_)
    simp -implicitDefEqProofs[jJ,-natCast_add,-natCast_mul,-natCast_emod,-natCast_ediv,-natCast_pow]
    (first|refine Ab k2 ?_|refine Aa k2 ?_)
    simp -implicitDefEqProofs[jJ,-natCast_add,-natCast_mul,-natCast_emod,-natCast_ediv,-natCast_pow]
    (first|refine Ab k3 ?_|refine Aa k3 ?_)
    simp -implicitDefEqProofs[jJ,-natCast_add,-natCast_mul,-natCast_emod,-natCast_ediv,-natCast_pow]
    (first|refine Ab k4 ?_|refine Aa k4 ?_)
    simp -implicitDefEqProofs[jJ,-natCast_add,-natCast_mul,-natCast_emod,-natCast_ediv,-natCast_pow]
    (first|refine Ab k5 ?_|refine Aa k5 ?_)
    simp -implicitDefEqProofs[jJ,-natCast_add,-natCast_mul,-natCast_emod,-natCast_ediv,-natCast_pow,u16,AI s2];exact⟨⟨by omega,by omega⟩,i,some [d],by simp[Aw,lk,vI,vC,e8,u16],⟨by omega,hq,hv,hlen⟩,by omega⟩
   ·obtain⟨g2,g3,g4⟩:=g2
    have e8:val (x.drop i)%n=R - n*d:=s4
    have hq:Ok (d::q):=g2.cons s2;have hv:val (d::q)=val (x.drop i)/n:=by rw[s3,←g3];rfl
    have hlen:(d::q).length+i=x.length:=by simp only[List.length_cons];simp only at g4;omega
    clear s1 s3 s4 s6 hd hV;simp -implicitDefEqProofs[jJ,-natCast_add,-natCast_mul,-natCast_emod,-natCast_ediv,-natCast_pow,hxi,u16];refine⟨hi,⟨by omega,by omega⟩,.inl ⟨by omega,?_⟩⟩
    have a1:D.slice (1+(limbs (V%n)).length) (List.take (1+(limbs (V%n)).length) (D.int IntKind.u16 xi::List.map u16 (limbs (V%n))))=Ac (xi::limbs (V%n)):=by
     rw[Nat.add_comm,AH (by simp)]
     rfl
    rw[a1]
    (first|refine Ab k1 ?_|refine Aa k1 ?_)
    simp -implicitDefEqProofs[jJ,-natCast_add,-natCast_mul,-natCast_emod,-natCast_ediv,-natCast_pow]
    (first|refine Ab k2 ?_|refine Aa k2 ?_)
    simp -implicitDefEqProofs[jJ,-natCast_add,-natCast_mul,-natCast_emod,-natCast_ediv,-natCast_pow];refine⟨by simp only[List.length_cons]at hlen;omega,?_⟩
    (first|refine Ab k3 ?_|refine Aa k3 ?_)
    simp -implicitDefEqProofs[jJ,-natCast_add,-natCast_mul,-natCast_emod,-natCast_ediv,-natCast_pow]
    (first|refine Ab k4 ?_|refine Aa k4 ?_)
    simp -implicitDefEqProofs[jJ,-natCast_add,-natCast_mul,-natCast_emod,-natCast_ediv,-natCast_pow]
    (first|refine Ab k5 ?_|refine Aa k5 ?_)
    simp -implicitDefEqProofs[jJ,-natCast_add,-natCast_mul,-natCast_emod,-natCast_ediv,-natCast_pow,u16,AI s2];exact⟨⟨by omega,by omega⟩,i,some (d::q),by simp[Aw,lk,vI,vC,e8,u16,Nat.add_comm],⟨by omega,hq,hv,hlen⟩,by omega⟩
theorem jgk(a b:List Nat)(ha:Ok a)(hl:a.length≤900)(hb:Ok b)(hm:b.length≤900):
  CallsF Tryz.prog 105 [.c (Ac a),.c (Ac b)] (.u (.c (.d (Ac (limbs (Nat.gcd (val a) (val b))))))):=by
 refine Ak (T:=tb) Ah mixed Tryz.func105 rfl (by decide) (Af rfl) rfl ?_;unfold St.init
 simp -implicitDefEqProofs[jJ,-natCast_add,-natCast_mul,-natCast_emod,-natCast_ediv,-natCast_pow]
 (first|refine Ab (B6 a ha (by omega)) ?_|refine Aa (B6 a ha (by omega)) ?_)
 simp -implicitDefEqProofs[jJ,-natCast_add,-natCast_mul,-natCast_emod,-natCast_ediv,-natCast_pow]
 (first|refine Ab (B6 b hb (by omega)) ?_|refine Aa (B6 b hb (by omega)) ?_)
 simp -implicitDefEqProofs[jJ,-natCast_add,-natCast_mul,-natCast_emod,-natCast_ediv,-natCast_pow];have la:=Bg a ha;have lb:=Bg b hb;have l1:(limbs (val a)).length≤900:=by omega
 have l2:(limbs (val b)).length≤900:=by omega
 clear hl hm ha hb la lb;generalize val a=m at*;generalize val b=n at*;refine AF (fun p:Nat×Nat=>⟨[(0,vC (.d (Ac (limbs p.1)))),(1,vC (.d (Ac (limbs p.2))))],[]⟩) (fun p=>Nat.gcd p.1 p.2=Nat.gcd m n∧(limbs p.1).length≤900∧(limbs p.2).length≤900) (fun p=>p.2) (m,n) (by simp) ⟨rfl,l1,l2⟩ ?_
 rintro⟨x,y⟩ ⟨g1,g2,g3⟩
 simp only at g1 g2 g3;by_cases h0:y=0
 ·subst h0;simp -implicitDefEqProofs[jJ,-natCast_add,-natCast_mul,-natCast_emod,-natCast_ediv,-natCast_pow,Cc];rw[←g1,Nat.gcd_zero_right]
 ·have hp:0<(limbs y).length:=limbs_pos_len.2 (by omega)
  have d:=LI (limbs x) (limbs y) (An _) g2 (An _) g3 (by rw[Ao];exact h0)
  rw[Ao,Ao]at d
  have hml:(limbs (x%y)).length≤900:=Nat.le_trans (Dq (Nat.le_of_lt (Nat.mod_lt _ (by omega)))) g3
  simp -implicitDefEqProofs[jJ,-natCast_add,-natCast_mul,-natCast_emod,-natCast_ediv,-natCast_pow,hp]
  (first|refine Ab d ?_|refine Aa d ?_)
  simp -implicitDefEqProofs[jJ,-natCast_add,-natCast_mul,-natCast_emod,-natCast_ediv,-natCast_pow];refine⟨y,x%y,⟨rfl,rfl⟩,⟨?_,g3,hml⟩,Nat.mod_lt _ (by omega)⟩
  rw[Nat.gcd_comm,←Nat.gcd_rec,Nat.gcd_comm,g1]
def RD:List (List Nat):=(Ad [0,1,3,7,7,7,39,119,247,503,1023,7,2055,7,7,7,49159,114695,253959,516103,1040391,2095111,4194303,8388607,16777215])
@[simp]def UT:List Seg:=[.one,.one,.one,.any [] [] (Ap [[0,9],[1,9],[2,9],[12,9],[11,13,9],[14,9],[15,9],[10,16,9],[3,9],[18,9],[4,9],[5,9],[2,9],[21,22,9],[23,9],[20,24,9],[25,9],[26,9],[19,27,9]]),.one,.one,.one]
theorem On(r x:Nat)(hr:r<281474976710656)(hx:x<65536):Dr .u64 (C6 .u64 (r:Int) 16) (x:Int)=((r*65536+x:Nat):Int):=by
 have e:C6 .u64 (r:Int) 16=((r*65536:Nat):Int):=by
  have:=P7 r 16 (by omega)
  rw[show(2:Nat)^16=65536 from by decide,AI (by omega)]at this
  exact this
 rw[e,P3 _ _ (by omega) (by omega),Nat.or_comm]
 have:=Ic x r 16 (by omega)
 rw[show(2:Nat)^16=65536 from by decide,Nat.mul_comm 65536 r]at this
 rw[this,Nat.add_comm]
theorem jgJ(q r n j:Nat)(u v:List Nat)(hn:2≤n)(hv:v.length=n)(hj:j+n≤u.length)(hul:u.length≤1000)(ou:Ok u)(ov:Ok v)(hq:q≤1000000)(hr:r<65536):
  CallsF Tryz.prog 336 [.c (.ref [.int .u64 q]),.c (.ref [Ac v]),.c (.ref [.int .i64 n]),.c (.ref [.int .u64 r]),.c (.ref [Ac u]),.c (.ref [.int .i64 j])]
   (.u (.c (.d (.bool (decide (65536≤q)||decide (r*65536+u.getD (j+n - 2) 0<q*v.getD (n - 2) 0)))))):=by
 have h1:n - 2<v.length:=by omega
 have h2:j+n - 2<u.length:=by omega
 have e1:v.getD (n - 2) 0=v[n - 2]:=by rw[Ax,Am h1];rfl
 have e2:u.getD (j+n - 2) 0=u[j+n - 2]:=by rw[Ax,Am h2];rfl
 rw[e1,e2]
 have x1:v[n - 2]<65536:=ov _ (AD h1);have x2:u[j+n - 2]<65536:=ou _ (AD h2);have g1:v[n - 2]? =some v[n - 2]:=Am h1;have g2:u[j+n - 2]? =some u[j+n - 2]:=Am h2;generalize v[n - 2]=y at*;generalize u[j+n - 2]=x at*;have m1:q*y≤1000000*65535:=Nat.mul_le_mul hq (by omega)
 have m2:q*y%18446744073709551616=q*y:=AI (by omega)
 have o1:=On r x (by omega) x2
 refine Ak (T:=tb) Ah mixed Tryz.func336 rfl (by decide) (Af rfl) rfl ?_;unfold St.init
 by_cases hb:65536≤q
 ·simp (maxSteps:=2000000) -implicitDefEqProofs[jJ,-natCast_add,-natCast_mul,-natCast_emod,-natCast_ediv,-natCast_pow,hb];refine At RD UT (by rfl) ?_
  simp (maxSteps:=2000000) -implicitDefEqProofs[jJ,-natCast_add,-natCast_mul,-natCast_emod,-natCast_ediv,-natCast_pow,hb]
 ·have n1:(n:Int) - 2=((n - 2:Nat):Int):=by omega
  have n2:((j+n:Nat):Int) - 2=((j+n - 2:Nat):Int):=by omega
  simp (maxSteps:=2000000) -implicitDefEqProofs[jJ,-natCast_add,-natCast_mul,-natCast_emod,-natCast_ediv,-natCast_pow,hb];refine At RD UT (by rfl) ?_
  have m0:x%18446744073709551616=x:=AI (by omega)
  have m3:y%18446744073709551616=y:=AI (by omega)
  simp (maxSteps:=2000000) -implicitDefEqProofs[jJ,-natCast_add,-natCast_mul,-natCast_emod,-natCast_ediv,-natCast_pow,hb,n1,n2,g1,g2,m0,m2,m3,o1,u16];omega
def dl(d:Nat):List Nat→List Nat×Nat
 |[]=>([],0)
 |x::a=>(((dl d a).2*65536+x)/d::(dl d a).1,((dl d a).2*65536+x)%d)
theorem Ks{d:Nat}(hd:0<d)(hd2:d<65536): ∀a:List Nat,Ok a→val (dl d a).1*d+(dl d a).2=val a∧(dl d a).2<d∧Ok (dl d a).1∧(dl d a).1.length=a.length
 |[],_=>⟨by simp[dl,val],hd,Ok.nil,rfl⟩
 |x::a,h=>by
  obtain⟨h1,h2,h3,h4⟩:=Ks hd hd2 a h.tail
  have hx:=h.head
  show val (((dl d a).2*65536+x)/d::(dl d a).1)*d+((dl d a).2*65536+x)%d=val (x::a)∧((dl d a).2*65536+x)%d<d∧Ok (((dl d a).2*65536+x)/d::(dl d a).1)∧(((dl d a).2*65536+x)/d::(dl d a).1).length=(x::a).length
  generalize dl d a=s at*;obtain⟨q,r⟩:=s;simp only at*;have hq:(r*65536+x)/d<65536:=by
   rw[Nat.div_lt_iff_lt_mul hd]
   have:(r+1)*65536≤d*65536:=Bk _ h2
   omega
  refine⟨?_,Nat.mod_lt _ hd,Ok.cons hq h3,by simp[h4]⟩
  have hdm:=Nat.div_add_mod (r*65536+x) d;rw[Nat.mul_comm]at hdm;rw[val,val,Nat.add_mul,Nat.mul_assoc];generalize (r*65536+x)/d*d=A at*;generalize val q*d=B at*;omega
theorem YW{d:Nat}(hd:0<d)(hd2:d<65536){a:List Nat}(ha:Ok a):val (dl d a).1=val a/d∧(dl d a).2=val a%d:=by
 obtain⟨h1,h2,_,_⟩:=Ks hd hd2 a ha
 rw[←h1]
 constructor
 ·rw[Nat.mul_comm,Nat.mul_add_div hd,Nat.div_eq_of_lt h2,Nat.add_zero]
 ·rw[Nat.mul_comm,Nat.mul_add_mod,AI h2]
theorem jiw(r x:Nat)(hr:r<65536)(hx:x<65536):Dr .u32 (C6 .u32 (r:Int) 16) (x:Int)=((r*65536+x:Nat):Int):=by
 have e:C6 .u32 (r:Int) 16=((r*65536:Nat):Int):=by
  have:=M7 r 16 (by omega)
  rw[show(2:Nat)^16=65536 from by decide,AI (by omega)]at this
  exact this
 rw[e,O6 _ _ (by omega) (by omega),Nat.or_comm]
 have:=Ic x r 16 (by omega)
 rw[show(2:Nat)^16=65536 from by decide,Nat.mul_comm 65536 r]at this
 rw[this,Nat.add_comm]
theorem jfp(a:List Nat)(d:Nat)(ha:Ok a)(hl:a.length≤1000)(hd:0<d)(hd2:d<65536):
  CallsF Tryz.prog 301 [.c (Ac a),.c (.int .u16 d)] (.tup [.c (.d (Ac (limbs (val a/d)))),.c (.d (.int .u16 (val a%d:Nat)))]):=by
 obtain⟨e1,e2⟩:=YW hd hd2 ha
 obtain⟨_,hr,ho,hlen⟩:=Ks hd hd2 a ha
 have kt:=BP (dl d a).1 ho (by omega)
 rw[e1]at kt
 rw[←e2]
 obtain⟨W,R,J,hW0,hR0,hWn,hRn,hJ0,hJn,hJ,hJs,hst⟩: ∃(W:Nat→List Nat) (R:Nat→Nat) (J:Nat→Int),W 0=List.replicate a.length 0∧R 0=0∧W a.length=(dl d a).1∧R a.length=(dl d a).2∧J 0=(a.length:Int) - 1∧J a.length= -1∧
   (∀k,k<a.length→ ∃j:Nat,J k=j∧j+1+k=a.length)∧(∀k,k<a.length→J (k+1)=J k - 1)∧
   ∀k (_:k<a.length) (j:Nat),J k=j→(W k).length=a.length∧R k<d∧ ∃hj:j<a.length,W (k+1)=(W k).set j ((R k*65536+a[j])/d)∧R (k+1)=(R k*65536+a[j])%d:=by
  refine⟨fun k=>List.replicate (a.length - k) 0++(dl d (a.drop (a.length - k))).1,fun k=>(dl d (a.drop (a.length - k))).2,fun k=>(a.length:Int) - 1 - k,by simp[dl],by simp[dl],by simp,by simp,by simp,by simp only;omega,fun k hk=>⟨a.length - 1 - k,by simp only;omega,by omega⟩,fun k hk=>by simp only;omega,fun k hk j hj=> ?_⟩
  have hj':(a.length:Int) - 1 - k=j:=hj
  have hj2:j=a.length - 1 - k:=by omega
  have hdr:a.drop j=a[j]'(by omega)::a.drop (j+1):=AX (by omega)
  have oa:Ok (a.drop (j+1)):=fun y hy=>ha y (List.mem_of_mem_drop hy)
  obtain⟨_,s2,_,s4⟩:=Ks hd hd2 _ oa
  simp only;rw[show a.length - k=j+1 by omega,show a.length - (k+1)=j by omega]
  refine⟨?_,s2,by omega,?_,?_⟩
  ·rw[List.length_append,List.length_replicate,s4,List.length_drop];omega
  ·rw[hdr,dl,List.set_append_left _ _ (by simp),List.replicate_succ',List.set_append_right _ _ (by simp)]
   simp
  ·rw[hdr,dl]
 rw[←hWn]at kt
 rw[←hRn]
 have hWl:(W a.length).length=a.length:=by rw[hWn];exact hlen
 refine Ak (T:=tb) Ah mixed Tryz.func301 rfl (by decide) (Af rfl) rfl ?_;unfold St.init
 simp -implicitDefEqProofs[jJ,-natCast_add,-natCast_mul,-natCast_emod,-natCast_ediv,-natCast_pow,-List.map_set];refine⟨by omega,by omega,?_⟩
 refine AF (fun k:Nat=>⟨[(8,vI .i64 (J k)),(7,vI .u32 (R k)),(6,vC (.sl 11 0 a.length)),(0,vC (.d (Ac a))),(1,.u (.c (.d (.int .u16 d))))],[(11,.row 1 ((W k).map u16) true)]⟩) (fun k=>k≤a.length) (fun k=>a.length - k) 0
  (by simp[Aw,lk,St.le,vI,vC,hW0,hR0,hJ0,u16]) (by omega) ?_
 rintro k hk
 by_cases h:k<a.length
 ·obtain⟨j,hj,hj2⟩:=hJ k h
  have hjs:=hJs k h;obtain⟨hwl,hrd,hja,hW1,hR1⟩:=hst k h j hj;rw[hj]at hjs ⊢;have hx:a[j]<65536:=ha _ (AD hja);have oh:=jiw (R k) a[j] (by omega) hx
  have nz: ¬d=0:=by omega
  have hq:(R k*65536+a[j])/d<65536:=by
   rw[Nat.div_lt_iff_lt_mul hd]
   have:(R k+1)*65536≤d*65536:=Bk _ hrd
   omega
  have m1:a[j]%4294967296=a[j]:=AI (by omega)
  have m2:d%4294967296=d:=AI (by omega)
  have m3:(R k*65536+a[j])/d%4294967296=(R k*65536+a[j])/d:=AI (by omega)
  have m4:(R k*65536+a[j])/d%65536=(R k*65536+a[j])/d:=AI hq
  simp -implicitDefEqProofs[jJ,-natCast_add,-natCast_mul,-natCast_emod,-natCast_ediv,-natCast_pow,-List.map_set,hja,oh,u16,nz,m1,m2,m3,m4];refine⟨by omega,by omega,k+1,⟨⟨by rw[hjs],hR1.symm⟩,?_⟩,by omega,by omega⟩
  rw[Cd _ _ _ (by omega),hW1]
 ·have hk2:k=a.length:=by omega
  subst hk2;have et:List.take a.length (List.map u16 (W a.length))=List.map u16 (W a.length):=AH (by simp[hWl])
  have en:D.slice a.length (List.map u16 (W a.length))=Ac (W a.length):=by
   show _=D.slice (W a.length).length _
   rw[hWl]
  have m5:R a.length%65536=R a.length:=AI (by rw[hRn];omega)
  rw[hJn]
  simp -implicitDefEqProofs[jJ,-natCast_add,-natCast_mul,-natCast_emod,-natCast_ediv,-natCast_pow,-List.map_set,et,en];refine .inl ⟨by omega,_,kt,?_⟩
  simp -implicitDefEqProofs[jJ,-natCast_add,-natCast_mul,-natCast_emod,-natCast_ediv,-natCast_pow,-List.map_set,m5]
end Go.Va
