/- a part of the proof -/
import Derived.Test.YtkajmpgbnbikiaaGreatDoorMbf
import Derived.Test.YtkajmpgbnbikiaaGreatDoorMbh
import Derived.Test.YtkajmpgbnbikiaaGreatDoorMao
import Derived.Test.YtkajmpgbnbikiaaGreatDoorMbd
import Derived.Test.YtkajmpgbnbikiaaGreatDoorMan
set_option linter.all false
set_option maxHeartbeats 4000000
set_option maxRecDepth 10000
namespace Go.Va
open Int (natCast_add natCast_mul natCast_emod natCast_ediv natCast_pow)
open Go.Proofs
theorem US: ∀h:Fin 256,h.val<2^t8 h.val∧(h.val≠0→128≤h.val*2^(8 - t8 h.val))∧t8 h.val≤8∧(h.val≠0→0<t8 h.val):=by decide+kernel
theorem RA{x:Nat}(h0:x≠0)(hx:x<65536):len16 x≤16∧0<len16 x∧32768≤x*2^(16 - len16 x)∧x*2^(16 - len16 x)<65536:=by
 unfold len16;split
 ·rename_i h
  obtain⟨h1,h2,h3,h4⟩:=US ⟨x,h⟩
  simp only at h1 h2 h3 h4;have h2:=h2 h0;have h4:=h4 h0;generalize t8 x=t at*;have e:16 - t=8+(8 - t):=by omega
  rw[e,Nat.pow_add,Nat.mul_left_comm]
  have e2:2^t*2^(8 - t)=256:=by rw[←Nat.pow_add,show t+(8 - t)=8 by omega]
  have h5:x*2^(8 - t)<2^t*2^(8 - t):=Nat.mul_lt_mul_of_pos_right h1 (Nat.pow_pos (by omega))
  rw[e2]at h5
  generalize x*2^(8 - t)=z at*;omega
 ·rename_i h
  obtain⟨h1,h2,h3,h4⟩:=US ⟨x/256,by omega⟩
  simp only at h1 h2 h3 h4;have h2:=h2 (by omega)
  have h4:=h4 (by omega)
  generalize t8 (x/256)=t at*;rw[show 16 - (8+t)=8 - t by omega]
  have e2:2^t*2^(8 - t)=256:=by rw[←Nat.pow_add,show t+(8 - t)=8 by omega]
  have h5:(x/256+1)*2^(8 - t)≤2^t*2^(8 - t):=Bk _ h1;rw[e2]at h5;have h6:256*(x/256)*2^(8 - t)≤x*2^(8 - t):=Bk _ (by omega)
  have h7:(x+1)*2^(8 - t)≤256*(x/256+1)*2^(8 - t):=Bk _ (by omega)
  rw[Nat.mul_assoc]at h6 h7
  rw[Nat.add_mul,Nat.one_mul]at h7
  have hp:0<2^(8 - t):=Nat.pow_pos (by omega)
  omega
theorem jhG(x:Nat)(h0:x≠0)(hx:x<65536):CallsF Tryz.prog 302 [.c (.int .u16 x)] (.u (.c (.d (.int .i64 (16 - len16 x:Nat))))):=by
 have k:=PI x hx;have hs:=RA h0 hx;have e:(16:Int) - (len16 x:Nat)=((16 - len16 x:Nat):Int):=by omega
 generalize len16 x=t at*;refine Ak (T:=tb) Ah mixed Tryz.func302 rfl (by decide) (Af rfl) rfl ?_;unfold St.init
 simp -implicitDefEqProofs[jJ,-natCast_add,-natCast_mul,-natCast_emod,-natCast_ediv,-natCast_pow,-List.map_set]
 (first|refine Ab k ?_|refine Aa k ?_)
 simp -implicitDefEqProofs[jJ,-natCast_add,-natCast_mul,-natCast_emod,-natCast_ediv,-natCast_pow,-List.map_set,e];omega
theorem Ns{v:Nat}(h:v≠0):65536^((limbs v).length - 1)≤v:=by
 obtain⟨x,hx,h1,h2⟩:=KO h
 have hv:=Ao v;generalize limbs v=l at*;have hlt:=(jzg.1 hx).1;have e:l=l.take (l.length - 1)++[x]:=by
  have h3:l.drop (l.length - 1)=[x]:=by
   rw[AX hlt,Cg (by omega)]
   rw[Am hlt]at hx
   rw[AK hx]
  conv=>lhs;rw[←List.take_append_drop (l.length - 1) l]
  rw[h3]
 rw[←hv]
 conv=>rhs;rw[e]
 rw[CX,AP,A7 (by omega)]
 have:65536^(l.length - 1)*1≤65536^(l.length - 1)*val [x]:=Nat.mul_le_mul_left _ (by simp[val];omega)
 omega
theorem Yb{v n:Nat}(hn:0<n)(h1:65536^(n - 1)≤v)(h2:v<65536^n):(limbs v).length=n:=by
 have h0:v≠0:=by have:0<65536^(n - 1):=Nat.pow_pos (by omega);omega
 have a1:=Ns h0;have a2:=Bn _ (An v);rw[Ao]at a2;have b1:n - 1<(limbs v).length:=by
  apply Classical.byContradiction
  intro h;have:65536^(limbs v).length≤65536^(n - 1):=Nat.pow_le_pow_right (by omega) (by omega)
  omega
 have b2:(limbs v).length - 1<n:=by
  apply Classical.byContradiction
  intro h;have:65536^n≤65536^((limbs v).length - 1):=Nat.pow_le_pow_right (by omega) (by omega)
  omega
 omega
theorem jb7(n:Nat):val (List.replicate n 0)=0:=by
 induction n with
 |zero=>rfl
 |succ n ih=>rw[List.replicate_succ,val,ih]
structure DmOk (x y n s:Nat) (u V:List Nat):Prop where
 hs:s<16
 ov:Ok V
 lv:V.length=n
 vv:val V=y*2^s
 top:32768≤V.getD (n - 1) 0
 ou:Ok u
 lu:u.length=(limbs x).length+1
 vu:val u=x*2^s
 lt:V.length<u.length
 hd:val (u.drop (u.length - V.length))<val V
theorem jga{x y:Nat}(hxy:y≤x)(hn:2≤(limbs y).length): ∃t,(limbs y)[(limbs y).length - 1]? =some t∧t≠0∧t<65536∧(limbs (x*2^(16 - len16 t))).length≤(limbs x).length+1∧(limbs x).length≤(limbs (x*2^(16 - len16 t))).length∧
  DmOk x y (limbs y).length (16 - len16 t) ((limbs (x*2^(16 - len16 t))++[0,0]).take ((limbs x).length+1)) (limbs (y*2^(16 - len16 t))):=by
 have hy0:y≠0:=by intro e;subst e;simp[limbs,Fs]at hn
 obtain⟨t,ht,t0,t1⟩:=KO hy0
 obtain⟨s1,s2,s3,s4⟩:=RA (x:=t) (by omega) t1
 refine⟨t,ht,by omega,t1,?_⟩
 have hs:16 - len16 t<16:=by omega
 generalize 16 - len16 t=s at*;have hp:=FJ hs;have hyv:=Ao y;have hyo:=An y;have ey:y=val ((limbs y).take ((limbs y).length - 1))+65536^((limbs y).length - 1)*t∧val ((limbs y).take ((limbs y).length - 1))<65536^((limbs y).length - 1):=by
  have hlt:=(jzg.1 ht).1;have e:limbs y=(limbs y).take ((limbs y).length - 1)++[t]:=by
   have h3:(limbs y).drop ((limbs y).length - 1)=[t]:=by
    rw[AX hlt,Cg (by omega)]
    rw[Am hlt]at ht
    rw[AK ht]
   conv=>lhs;rw[←List.take_append_drop ((limbs y).length - 1) (limbs y)]
   rw[h3]
  have hl:=Bn _ (hyo.take ((limbs y).length - 1));rw[AP,A7 (by omega)]at hl
  refine⟨?_,hl⟩
  conv=>lhs;rw[←hyv,e]
  rw[CX,AP,A7 (by omega)]
  simp[val]
 generalize hnn:(limbs y).length=n at*;generalize val ((limbs y).take (n - 1))=lw at*;have hP:65536^n=65536^(n - 1)*65536:=by
  conv=>lhs;rw[show n=n - 1+1 by omega]
  rw[Nat.pow_succ]
 have hPp:0<65536^(n - 1):=Nat.pow_pos (by omega)
 have e65:65536=2^s*2^(16 - s):=by rw[←Nat.pow_add,show s+(16 - s)=16 by omega]
 have ht2:(t+1)*2^s≤65536:=by
  have:t<2^(16 - s):=by
   have h5:t*2^s<2^(16 - s)*2^s:=by rw[Nat.mul_comm (2^(16 - s)),←e65];exact s4
   exact Nat.lt_of_mul_lt_mul_right h5
  have h6:(t+1)*2^s≤2^(16 - s)*2^s:=Bk _ this;rw[Nat.mul_comm (2^(16 - s)),←e65]at h6;exact h6
 have ey2:y*2^s=lw*2^s+65536^(n - 1)*(t*2^s):=by
  conv=>lhs;rw[ey.1]
  rw[Nat.add_mul,Nat.mul_assoc]
 have hlow:lw*2^s<65536^(n - 1)*2^s:=Nat.mul_lt_mul_of_pos_right ey.2 hp.1;have hlo2:65536^(n - 1)*32768≤65536^(n - 1)*(t*2^s):=Nat.mul_le_mul_left _ s3;have hhi2:65536^(n - 1)*(t*2^s)+65536^(n - 1)*2^s≤65536^(n - 1)*65536:=by
  rw[←Nat.mul_add]
  exact Nat.mul_le_mul_left _ (by rw[Nat.add_mul,Nat.one_mul]at ht2;exact ht2)
 have lV:(limbs (y*2^s)).length=n:=Yb (by omega) (by omega) (by rw[hP];omega)
 have oV:=An (y*2^s);have vV:=Ao (y*2^s);have topV:32768≤(limbs (y*2^s)).getD (n - 1) 0:=by
  have h2:=HA lV (by omega) oV
  have hw:=Bn _ (oV.take (n - 1));rw[AP,A7 (by omega)]at hw
  have e:limbs (y*2^s)=(limbs (y*2^s)).take (n - 1)++[(limbs (y*2^s)).getD (n - 1) 0]:=by
   have h3:(limbs (y*2^s)).drop (n - 1)=[(limbs (y*2^s)).getD (n - 1) 0]:=by
    rw[AX (by omega),Cg (by omega),Ax,Am (by omega)]
    rfl
   conv=>lhs;rw[←List.take_append_drop (n - 1) (limbs (y*2^s))]
   rw[h3]
  have h4:val (limbs (y*2^s))=val ((limbs (y*2^s)).take (n - 1))+65536^(n - 1)*(limbs (y*2^s)).getD (n - 1) 0:=by
   conv=>lhs;rw[e]
   rw[CX,AP,A7 (by omega)]
   simp[val]
  rw[vV]at h4
  apply Classical.byContradiction
  intro hc;have:65536^(n - 1)*((limbs (y*2^s)).getD (n - 1) 0+1)≤65536^(n - 1)*32768:=Nat.mul_le_mul_left _ (by omega)
  rw[Nat.mul_add,Nat.mul_one]at this
  omega
 have hx0:x≠0:=by omega
 have ax:=Ns hx0;have bx:=Bn _ (An x);rw[Ao]at bx;have hmn:n≤(limbs x).length:=by
  rw[←hnn]
  exact Dq hxy
 generalize hm:(limbs x).length=m at*;have hx2:x≤x*2^s:=Nat.le_mul_of_pos_right _ hp.1;have lX1:m≤(limbs (x*2^s)).length:=by rw[←hm];exact Dq hx2
 have hxs:x*2^s<65536^m*2^s:=Nat.mul_lt_mul_of_pos_right bx hp.1;have lX2:(limbs (x*2^s)).length≤m+1:=by
  have h1:=Ns (v:=x*2^s) (by omega)
  apply Classical.byContradiction
  intro hc;have h2:65536^(m+1)≤65536^((limbs (x*2^s)).length - 1):=Nat.pow_le_pow_right (by omega) (by omega)
  have h3:65536^m*2^s≤65536^m*65536:=Nat.mul_le_mul_left _ (by omega)
  rw[Nat.pow_succ]at h2
  omega
 refine⟨lX2,lX1,?_⟩
 have oX:=An (x*2^s);have vX:=Ao (x*2^s);have eu:(limbs (x*2^s)++[0,0]).take (m+1)=limbs (x*2^s)++List.replicate (m+1 - (limbs (x*2^s)).length) 0:=by
  rw[List.take_append,AH lX2]
  congr 1
  have:m+1 - (limbs (x*2^s)).length=0∨m+1 - (limbs (x*2^s)).length=1:=by omega
  rcases this with h|h<;>rw[h]<;>rfl
 have ou:Ok ((limbs (x*2^s)++[0,0]).take (m+1)):=by
  rw[eu]
  exact ok_app oX fun y hy=>by have:=List.eq_of_mem_replicate hy;omega
 have lu:((limbs (x*2^s)++[0,0]).take (m+1)).length=m+1:=by
  rw[eu,List.length_append,List.length_replicate];omega
 have vu:val ((limbs (x*2^s)++[0,0]).take (m+1))=x*2^s:=by
  rw[eu,CX,jb7,Nat.mul_zero,Nat.add_zero,vX]
 generalize (limbs (x*2^s)++[0,0]).take (m+1)=u at*;refine⟨hs,oV,lV,vV,topV,ou,by rw[lu,hm],vu,by omega,?_⟩
 rw[lu,lV,vV]
 have e4:val u=val (u.take (m+1 - n))+65536^(m+1 - n)*val (u.drop (m+1 - n)):=by
  conv=>lhs;rw[←List.take_append_drop (m+1 - n) u]
  rw[CX,AP,A7 (by omega)]
 rw[vu]at e4
 apply Classical.byContradiction
 intro hc;have h7:65536^(m+1 - n)*(65536^(n - 1)*32768)≤65536^(m+1 - n)*val (u.drop (m+1 - n)):=Nat.mul_le_mul_left _ (by omega)
 rw[←Nat.mul_assoc,←Nat.pow_add,show m+1 - n+(n - 1)=m by omega]at h7
 have h8:65536^m*2^s≤65536^m*32768:=Nat.mul_le_mul_left _ hp.2;omega
theorem jbQ(s:Nat)(hs:s<16):
  CallsF Tryz.prog 303 [.c (Ac []),.c (.int .i64 s)] (.u (.c (.d (Ac [])))):=by
 have k1:=BP [] (fun y hy=>by cases hy) (by simp)
 have e:limbs (val ([]:List Nat))=[]:=rfl
 rw[e]at k1
 have s1: ¬(s:Int)< -1048576:=by omega
 have s2: ¬1048576<s:=by omega
 refine Ak (T:=tb) Ah mixed Tryz.func303 rfl (by decide) (Af rfl) rfl ?_;unfold St.init
 simp -implicitDefEqProofs[jJ,-natCast_add,-natCast_mul,-natCast_emod,-natCast_ediv,-natCast_pow,-List.map_set]
 (first|refine Ab k1 ?_|refine Aa k1 ?_)
 simp -implicitDefEqProofs[jJ,-natCast_add,-natCast_mul,-natCast_emod,-natCast_ediv,-natCast_pow,-List.map_set,s1,s2];rfl
theorem Zx(r s:Nat)(hs:s<16)(hl:(limbs (r*2^s)).length≤1000):
  CallsF Tryz.prog 303 [.c (Ac (limbs (r*2^s))),.c (.int .i64 (-(s:Int)))] (.u (.c (.d (Ac (limbs r))))):=by
 have ho:=An (r*2^s);have hv:=Ao (r*2^s);by_cases hs0:s=0
 ·subst hs0;simp only[Nat.pow_zero,Nat.mul_one,Int.natCast_zero,Int.neg_zero]at*;by_cases hr:r=0
  ·subst hr;have k:=jbQ 0 (by omega)
   have e:limbs 0=[]:=rfl
   rw[e]
   exact k
  ·have k:=(Me (limbs r) 0 ho hl (by omega) (by omega)).dat
   simp only[R.dat,RU.dat,RC.dat,hv,Nat.pow_zero,Nat.mul_one]at k;rw[AH (by simp)]at k
   exact k
 ·have k:=jfJ (limbs (r*2^s)) s ho hl (by omega) hs
  rw[hv,Nat.mul_div_cancel _ (Nat.pow_pos (by omega))]at k
  exact k
theorem LL(a b:List Nat)(ha:Ok a)(hb:Ok b)(hl:a.length≤900)(hm:b.length≤900)(h0:val b≠0):
  CallsF Tryz.prog 237 [.c (Ac a),.c (Ac b)] (.tup [.c (.d (Ac (limbs (val a/val b)))),.c (.d (Ac (limbs (val a%val b)))),.c (.d (.int .i64 0))]):=by
 have t1:=BP a ha (by omega)
 have t2:=BP b hb (by omega)
 have la:=Bg a ha;have lb:=Bg b hb;have oa:=An (val a);have ob:=An (val b);have va:=Ao (val a);have vb:=Ao (val b);have kc:=KM (limbs (val a)) (limbs (val b)) oa (by omega) ob (by omega)
 have kn:=DE (limbs (val a)) oa (by omega)
 rw[va,vb]at kc
 rw[va]at kn
 have nb:limbs (val b)≠[]:=fun e=>h0 (limbs_nil.1 e)
 generalize hA:limbs (val a)=A at*;generalize hB:limbs (val b)=B at*;have pb:0<B.length:=List.length_pos_iff.2 nb;refine Ak (T:=tb) Ah mixed Tryz.func237 rfl (by decide) (Af rfl) rfl ?_;unfold St.init
 simp -implicitDefEqProofs[jJ,-natCast_add,-natCast_mul,-natCast_emod,-natCast_ediv,-natCast_pow,-List.map_set]
 (first|refine Ab t1 ?_|refine Aa t1 ?_)
 simp -implicitDefEqProofs[jJ,-natCast_add,-natCast_mul,-natCast_emod,-natCast_ediv,-natCast_pow,-List.map_set]
 (first|refine Ab t2 ?_|refine Aa t2 ?_)
 simp -implicitDefEqProofs[jJ,-natCast_add,-natCast_mul,-natCast_emod,-natCast_ediv,-natCast_pow,-List.map_set,nb]
 (first|refine Ab kc ?_|refine Aa kc ?_)
 by_cases c1:val a<val b
 ·have e1:cmp3 (val a) (val b)= -1:=by unfold cmp3;rw[if_pos c1]
  have e2:limbs (val a/val b)=[]:=by rw[Nat.div_eq_of_lt c1];rfl
  rw[e1,e2,AI c1,hA]
  simp -implicitDefEqProofs[jJ,-natCast_add,-natCast_mul,-natCast_emod,-natCast_ediv,-natCast_pow,-List.map_set]
  (first|refine Ab kn ?_|refine Aa kn ?_)
  simp -implicitDefEqProofs[jJ,-natCast_add,-natCast_mul,-natCast_emod,-natCast_ediv,-natCast_pow,-List.map_set]
  first|rfl|exact⟨rfl,rfl⟩|exact rfl
 ·have e1: ¬cmp3 (val a) (val b)<0:=by unfold cmp3;rw[if_neg c1];split<;>omega
  generalize cmp3 (val a) (val b)=rc at*;by_cases c2:B.length=1
  ·obtain⟨d,rfl⟩: ∃d,B=[d]:=by
    match B,c2 with
    |[d],_=>exact⟨d,rfl⟩
   have hd:val b=d:=by rw[←vb];simp[val]
   have d16:d<65536:=ob.head;have kb:=jfp A d oa (by omega) (by omega) d16
   have hr:val A%d<65536:=Nat.lt_trans (Nat.mod_lt _ (by omega)) d16
   have kf:=Hw (val A%d) (by omega)
   have mr:val A%d%18446744073709551616=val A%d:=AI (by omega)
   rw[va]at kb kf hr mr
   rw[hd]
   simp -implicitDefEqProofs[jJ,-natCast_add,-natCast_mul,-natCast_emod,-natCast_ediv,-natCast_pow,-List.map_set,e1,u16]
   (first|refine Ab kb ?_|refine Aa kb ?_)
   simp -implicitDefEqProofs[jJ,-natCast_add,-natCast_mul,-natCast_emod,-natCast_ediv,-natCast_pow,-List.map_set,mr]
   (first|refine Ab kf ?_|refine Aa kf ?_)
   simp -implicitDefEqProofs[jJ,-natCast_add,-natCast_mul,-natCast_emod,-natCast_ediv,-natCast_pow,-List.map_set]
  ·obtain⟨t,ht,t0,t1,lX2,lX1,Dm⟩:=jga (x:=val a) (y:=val b) (by omega) (by rw[hB];omega)
   have kz:=jhG t t0 t1;rw[hB]at ht Dm;rw[hA]at lX2 lX1 Dm;generalize 16 - len16 t=s at*;have k1:=Me A s oa (by omega) (by rw[va];omega) Dm.hs
   have k2:=(Me B s ob (by omega) (by rw[vb];exact h0) Dm.hs).dat
   rw[va]at k1
   rw[vb]at k2
   simp only[R.dat,RU.dat,RC.dat]at k2;rw[AH (by simp)]at k2
   have eV:D.slice (limbs (val b*2^s)).length ((limbs (val b*2^s)).map u16)=Ac (limbs (val b*2^s)):=rfl
   rw[eV]at k2
   generalize limbs (val b*2^s)=V at*;generalize limbs (val a*2^s)=X at*;generalize hU:(X++[0,0]).take (A.length+1)=U at*;have n1:(B.length:Int) - 1=((B.length - 1:Nat):Int):=by omega
   have hlu:=Dm.lu;rw[hA]at hlu;have kL:=jfG 54 (X++[0,0]) true U V [] (fun j b h=>by cases h) Dm.ou Dm.ov (by rw[Dm.lv];omega) (by rw[Dm.lv];exact Dm.top) Dm.lt Dm.hd (by omega) (by rw[hlu,←hU];rfl) (by simp;omega)
   have hend:=Gi Dm.ou Dm.ov (by rw[Dm.lv];omega) (by rw[Dm.lv];exact Dm.top) Dm.lt Dm.hd _ (Az _)
   have hval:=Na Dm.ou Dm.ov (by rw[Dm.lv];omega) (by rw[Dm.lv];exact Dm.top) Dm.lt Dm.hd
   rw[Dm.vu,Dm.vv]at hval
   have hp:=FJ Dm.hs;rw[Nat.mul_mod_mul_right]at hval;generalize (Cu U V (U.length - V.length)).1=F at*;simp -implicitDefEqProofs[jJ,-natCast_add,-natCast_mul,-natCast_emod,-natCast_ediv,-natCast_pow,-List.map_set,e1,c2,n1,ht,u16];refine⟨by omega,by omega,?_⟩
   (first|refine Ab kz ?_|refine Aa kz ?_)
   simp -implicitDefEqProofs[jJ,-natCast_add,-natCast_mul,-natCast_emod,-natCast_ediv,-natCast_pow,-List.map_set]
   (first|refine Ab k1 ?_|refine Aa k1 ?_)
   simp -implicitDefEqProofs[jJ,-natCast_add,-natCast_mul,-natCast_emod,-natCast_ediv,-natCast_pow,-List.map_set];refine⟨by omega,by omega,by omega,?_⟩
   have er:(X++[0,0]).map u16=X.map u16++[.int .u16 0,.int .u16 0]:=by rw[List.map_append];rfl
   have hF:F.length=A.length+1:=by rw[hend.lu,hlu]
   have et:List.take (A.length+1) (splice 0 (F.map u16) (X.map u16++[.int .u16 0,.int .u16 0]))=F.map u16:=by
    unfold splice;rw[List.take_zero,List.nil_append,List.take_append,List.length_map,hF,Nat.sub_self,List.take_zero,List.append_nil,AH (by simp[hF])]
   have en:D.slice (A.length+1) (F.map u16)=Ac F:=by
    show _=D.slice F.length _
    rw[hF]
   rw[er,Nat.zero_mul,hlu,Dm.vu,Dm.vv,Nat.mul_div_mul_right _ _ hp.1]at kL
   have ktF:=BP F hend.ou (by omega)
   rw[hval.2]at ktF
   (first|refine Ab k2 ?_|refine Aa k2 ?_)
   simp -implicitDefEqProofs[jJ,-natCast_add,-natCast_mul,-natCast_emod,-natCast_ediv,-natCast_pow,-List.map_set];refine .inr (.inl (Fh kL (by simp[CA,Go.Va.U.all,C.id?]) (by simp[lk]) ?_))
   simp -implicitDefEqProofs[jJ,-natCast_add,-natCast_mul,-natCast_emod,-natCast_ediv,-natCast_pow,-List.map_set,St.backW,et,en];refine .inl ⟨by rw[MK]<;>simp[hF]<;>omega,_,ktF,?_⟩
   have hlr:(limbs (val a%val b*2^s)).length≤1000:=by
    have:=Bg F hend.ou
    rw[hval.2]at this
    omega
   have kb:=Zx (val a%val b) s Dm.hs hlr;simp -implicitDefEqProofs[jJ,-natCast_add,-natCast_mul,-natCast_emod,-natCast_ediv,-natCast_pow,-List.map_set];have hs16:=Dm.hs;refine⟨by omega,?_⟩
   (first|refine Ab kb ?_|refine Aa kb ?_)
   simp -implicitDefEqProofs[jJ,-natCast_add,-natCast_mul,-natCast_emod,-natCast_ediv,-natCast_pow,-List.map_set,St.backW,et,en]
theorem Wq(a b:List Nat)(ha:Ok a)(hl:a.length≤900)(hb:Ok b)(hm:b.length≤900):
  CallsF Tryz.prog 162 [.c (Ac a),.c (Ac b)] (.u (.c (.d (Ac (limbs (Nat.gcd (val a) (val b))))))):=by
 refine Ak (T:=tb) Ah mixed Tryz.func162 rfl (by decide) (Af rfl) rfl ?_;unfold St.init
 simp -implicitDefEqProofs[jJ,-natCast_add,-natCast_mul,-natCast_emod,-natCast_ediv,-natCast_pow]
 (first|refine Ab (DE a ha (by omega)) ?_|refine Aa (DE a ha (by omega)) ?_)
 simp -implicitDefEqProofs[jJ,-natCast_add,-natCast_mul,-natCast_emod,-natCast_ediv,-natCast_pow]
 (first|refine Ab (DE b hb (by omega)) ?_|refine Aa (DE b hb (by omega)) ?_)
 simp -implicitDefEqProofs[jJ,-natCast_add,-natCast_mul,-natCast_emod,-natCast_ediv,-natCast_pow];have la:=Bg a ha;have lb:=Bg b hb;have l1:(limbs (val a)).length≤900:=by omega
 have l2:(limbs (val b)).length≤900:=by omega
 clear hl hm ha hb la lb;generalize val a=m at*;generalize val b=n at*;refine AF (fun p:Nat×Nat=>⟨[(0,vC (.d (Ac (limbs p.1)))),(1,vC (.d (Ac (limbs p.2))))],[]⟩) (fun p=>Nat.gcd p.1 p.2=Nat.gcd m n∧(limbs p.1).length≤900∧(limbs p.2).length≤900) (fun p=>p.2) (m,n) (by simp) ⟨rfl,l1,l2⟩ ?_
 rintro⟨x,y⟩ ⟨g1,g2,g3⟩
 simp only at g1 g2 g3;by_cases h0:y=0
 ·subst h0;simp -implicitDefEqProofs[jJ,-natCast_add,-natCast_mul,-natCast_emod,-natCast_ediv,-natCast_pow,Cc];rw[←g1,Nat.gcd_zero_right]
 ·have hp:0<(limbs y).length:=limbs_pos_len.2 (by omega)
  have u1:=I7 (limbs x) (An _) (by omega)
  have u2:=I7 (limbs y) (An _) (by omega)
  rw[Ao]at u1 u2
  have d:=LL (limbs x) (limbs y) (An _) (An _) g2 g3 (by rw[Ao];exact h0)
  rw[Ao,Ao]at d
  have hml:(limbs (x%y)).length≤900:=Nat.le_trans (Dq (Nat.le_of_lt (Nat.mod_lt _ (by omega)))) g3
  have hstep:Nat.gcd y (x%y)=Nat.gcd m n:=by rw[Nat.gcd_comm,←Nat.gcd_rec,Nat.gcd_comm,g1]
  have hlt:x%y<y:=Nat.mod_lt _ (by omega)
  simp -implicitDefEqProofs[jJ,-natCast_add,-natCast_mul,-natCast_emod,-natCast_ediv,-natCast_pow,hp]
  (first|refine Ab u1 ?_|refine Aa u1 ?_)
  simp -implicitDefEqProofs[jJ,-natCast_add,-natCast_mul,-natCast_emod,-natCast_ediv,-natCast_pow]
  (first|refine Ab u2 ?_|refine Aa u2 ?_)
  simp -implicitDefEqProofs[jJ,-natCast_add,-natCast_mul,-natCast_emod,-natCast_ediv,-natCast_pow];cases f1:Fc x
  ·simp -implicitDefEqProofs[jJ,-natCast_add,-natCast_mul,-natCast_emod,-natCast_ediv,-natCast_pow,f1]
   (first|refine Ab d ?_|refine Aa d ?_)
   simp -implicitDefEqProofs[jJ,-natCast_add,-natCast_mul,-natCast_emod,-natCast_ediv,-natCast_pow];exact⟨y,x%y,⟨rfl,rfl⟩,⟨hstep,g3,hml⟩,hlt⟩
  ·cases f2:Fc y
   ·simp -implicitDefEqProofs[jJ,-natCast_add,-natCast_mul,-natCast_emod,-natCast_ediv,-natCast_pow,f1,f2]
    (first|refine Ab d ?_|refine Aa d ?_)
    simp -implicitDefEqProofs[jJ,-natCast_add,-natCast_mul,-natCast_emod,-natCast_ediv,-natCast_pow];exact⟨y,x%y,⟨rfl,rfl⟩,⟨hstep,g3,hml⟩,hlt⟩
   ·have k1:Ec x=x:=by simp[Ec,f1]
    have k2:Ec y=y:=by simp[Ec,f2]
    have h1:=fits64_iff.1 f1;have h2:=fits64_iff.1 f2;simp -implicitDefEqProofs[jJ,-natCast_add,-natCast_mul,-natCast_emod,-natCast_ediv,-natCast_pow,f1,f2,k1,k2];refine AF (fun p:Nat×Nat=>⟨[(5,vI .u64 p.1),(7,vI .u64 p.2)],[]⟩) (fun p=>Nat.gcd p.1 p.2=Nat.gcd m n∧p.1<18446744073709551616∧p.2<18446744073709551616) (fun p=>p.2) (x,y) (by simp[Aw,lk,St.le,vI,vC,k1,k2]) ⟨g1,h1,h2⟩ ?_
    rintro⟨z,w⟩ ⟨q1,q2,q3⟩
    simp only at q1 q2 q3;by_cases hy:0<w
    ·simp -implicitDefEqProofs[jJ,-natCast_add,-natCast_mul,-natCast_emod,-natCast_ediv,-natCast_pow,hy];refine At (Ad [0,0,0,6,3,31]) [.any [] [] (Ap [[7],[5],[7],[36,37],[35]]),.one] (by rfl) ?_
     have hy0:w≠0:=by omega
     simp -implicitDefEqProofs[jJ,-natCast_add,-natCast_mul,-natCast_emod,-natCast_ediv,-natCast_pow,hy0];refine⟨w,z%w,⟨rfl,rfl⟩,⟨?_,q3,Nat.lt_of_le_of_lt (Nat.mod_le _ _) q2⟩,Nat.mod_lt _ hy⟩;rw[Nat.gcd_comm,←Nat.gcd_rec,Nat.gcd_comm,q1]
    ·have:w=0:=by omega
     subst this;simp -implicitDefEqProofs[jJ,-natCast_add,-natCast_mul,-natCast_emod,-natCast_ediv,-natCast_pow]
     (first|refine Ab (Hw z q2) ?_|refine Aa (Hw z q2) ?_)
     simp -implicitDefEqProofs[jJ,-natCast_add,-natCast_mul,-natCast_emod,-natCast_ediv,-natCast_pow];rw[←q1,Nat.gcd_zero_right]
def Ep(neg:Bool)(m d:Nat):List RC:=[.d (.bool (sg neg m)),.d (Ac (limbs (m/Nat.gcd m d))),.d (Ac (limbs (d/Nat.gcd m d)))]
theorem My(neg:Bool)(a b:List Nat)(ha:Ok a)(hl:a.length≤900)(hb:Ok b)(hm:b.length≤900)(h0:val b≠0):
  CallsF Tryz.prog 268 [.agg [.bool neg,Ac a],.c (Ac b)] (.u (.agg (Ep neg (val a) (val b)))):=by
 have n1:=DE b hb (by omega)
 have n2:=NW neg a ha (by omega)
 have l1:=Bg a ha;have l2:=Bg b hb;generalize val a=m at*;generalize val b=d at*;have hm1:(limbs m).length≤900:=by omega
 have hd1:(limbs d).length≤900:=by omega
 have g:=Wq (limbs m) (limbs d) (An _) hm1 (An _) hd1;rw[Ao,Ao]at g;have hgd:Nat.gcd m d∣d:=Nat.gcd_dvd_right m d;have hgm:Nat.gcd m d∣m:=Nat.gcd_dvd_left m d;have hg0:0<Nat.gcd m d:=Nat.gcd_pos_of_pos_right m (by omega)
 have hgle:Nat.gcd m d≤d:=Nat.le_of_dvd (by omega) hgd
 have hgl:(limbs (Nat.gcd m d)).length≤900:=Nat.le_trans (Dq hgle) hd1;have d1:=LL (limbs m) (limbs (Nat.gcd m d)) (An _) (An _) hm1 hgl (by rw[Ao];omega)
 have d2:=LL (limbs d) (limbs (Nat.gcd m d)) (An _) (An _) hd1 hgl (by rw[Ao];omega)
 rw[Ao,Ao]at d1 d2
 have o1:=Fq (limbs d);have o2:=Fq (limbs (Nat.gcd m d));rw[Uk (m:=0)]at o1;rw[Uk (m:=0)]at o2;have hne:limbs d≠[]:=fun h=>h0 (limbs_nil.1 h)
 have hz0:m=0→Nat.gcd m d=d:=fun h=>by rw[h,Nat.gcd_zero_left]
 have hone:d=1→Nat.gcd m d=1:=fun h=>by rw[h,Nat.gcd_one_right]
 have hzz:m=0↔limbs m=[]:=limbs_nil.symm
 unfold Ep;generalize hG:Nat.gcd m d=G at*;refine Ak (T:=tb) Ah mixed Tryz.func268 rfl (by decide) (Af rfl) rfl ?_;unfold St.init
 simp -implicitDefEqProofs[jJ,-natCast_add,-natCast_mul,-natCast_emod,-natCast_ediv,-natCast_pow]
 (first|refine Ab n1 ?_|refine Aa n1 ?_)
 simp -implicitDefEqProofs[jJ,-natCast_add,-natCast_mul,-natCast_emod,-natCast_ediv,-natCast_pow]
 (first|refine Ab n2 ?_|refine Aa n2 ?_)
 simp -implicitDefEqProofs[jJ,-natCast_add,-natCast_mul,-natCast_emod,-natCast_ediv,-natCast_pow,AO];by_cases hz:m=0
 ·have e:G=d:=hz0 hz
  subst hz;rw[e,Nat.zero_div,Nat.div_self (by omega)]
  simp -implicitDefEqProofs[jJ,-natCast_add,-natCast_mul,-natCast_emod,-natCast_ediv,-natCast_pow,Cc,Kv,hne]
  (first|refine Ab Hb ?_|refine Aa Hb ?_)
  simp -implicitDefEqProofs[jJ,-natCast_add,-natCast_mul,-natCast_emod,-natCast_ediv,-natCast_pow,sg];rfl
 ·have hne2:limbs m≠[]:=fun h=>hz (limbs_nil.1 h)
  simp -implicitDefEqProofs[jJ,-natCast_add,-natCast_mul,-natCast_emod,-natCast_ediv,-natCast_pow,hne,hne2]
  (first|refine Ab o1 ?_|refine Aa o1 ?_)
  by_cases h1:d=1
  ·have e:G=1:=hone h1
   rw[e,Nat.div_one,Nat.div_one]
   simp -implicitDefEqProofs[jJ,-natCast_add,-natCast_mul,-natCast_emod,-natCast_ediv,-natCast_pow,h1]
  ·simp -implicitDefEqProofs[jJ,-natCast_add,-natCast_mul,-natCast_emod,-natCast_ediv,-natCast_pow,h1]
   (first|refine Ab g ?_|refine Aa g ?_)
   simp -implicitDefEqProofs[jJ,-natCast_add,-natCast_mul,-natCast_emod,-natCast_ediv,-natCast_pow]
   (first|refine Ab o2 ?_|refine Aa o2 ?_)
   by_cases h2:G=1
   ·rw[h2,Nat.div_one,Nat.div_one]
    simp -implicitDefEqProofs[jJ,-natCast_add,-natCast_mul,-natCast_emod,-natCast_ediv,-natCast_pow]
   ·simp -implicitDefEqProofs[jJ,-natCast_add,-natCast_mul,-natCast_emod,-natCast_ediv,-natCast_pow,h2]
    (first|refine Ab d1 ?_|refine Aa d1 ?_)
    simp -implicitDefEqProofs[jJ,-natCast_add,-natCast_mul,-natCast_emod,-natCast_ediv,-natCast_pow]
    (first|refine Ab d2 ?_|refine Aa d2 ?_)
    simp -implicitDefEqProofs[jJ,-natCast_add,-natCast_mul,-natCast_emod,-natCast_ediv,-natCast_pow]
theorem Wg(na nb:Bool)(a b c d:List Nat)(ha:Ok a)(la:a.length≤400)(hb:Ok b)(lb:b.length≤400)(hc:Ok c)(lc:c.length≤400)(hd:Ok d)(ld:d.length≤400)(b0:val b≠0)(d0:val d≠0):
  CallsF Tryz.prog 228 [.agg [.bool na,Ac a,Ac b],.agg [.bool nb,Ac c,Ac d]] (.u (.agg (Ep (!decide (na=nb)) (val a*val c) (val b*val d)))):=by
 have p1:=Ej na a b hb (by omega) b0
 have p2:=Ej nb c d hd (by omega) d0
 have m1:=Gq na nb a c ha (by omega) hc (by omega)
 have m2:=Mw b d hb (by omega) hd (by omega)
 have b1:=CO a c ha hc;have b2:=CO b d hb hd;have k:=My (sg (!decide (na=nb)) (val a*val c)) (limbs (val a*val c)) (limbs (val b*val d)) (An _) (by omega) (An _) (by omega) (by rw[Ao];exact Nat.mul_ne_zero b0 d0)
 rw[Ao,Ao]at k
 have e:Ep (sg (!decide (na=nb)) (val a*val c)) (val a*val c) (val b*val d)=Ep (!decide (na=nb)) (val a*val c) (val b*val d):=by
  unfold Ep;have: ∀(s:Bool) (m:Nat),sg (sg s m) m=sg s m:=by intro s m;unfold sg;cases s<;>simp
  rw[this]
 rw[e]at k
 clear ha la hb lb hc lc hd ld b0 d0 b1 b2 e;refine Ak (T:=tb) Ah mixed Tryz.func228 rfl (by decide) (Af rfl) rfl ?_;unfold St.init
 simp -implicitDefEqProofs[jJ,-natCast_add,-natCast_mul,-natCast_emod,-natCast_ediv,-natCast_pow]
 (first|refine Ab p1 ?_|refine Aa p1 ?_)
 simp -implicitDefEqProofs[jJ,-natCast_add,-natCast_mul,-natCast_emod,-natCast_ediv,-natCast_pow]
 (first|refine Ab p2 ?_|refine Aa p2 ?_)
 simp -implicitDefEqProofs[jJ,-natCast_add,-natCast_mul,-natCast_emod,-natCast_ediv,-natCast_pow]
 (first|refine Ab m1 ?_|refine Aa m1 ?_)
 simp -implicitDefEqProofs[jJ,-natCast_add,-natCast_mul,-natCast_emod,-natCast_ediv,-natCast_pow,AO]
 (first|refine Ab m2 ?_|refine Aa m2 ?_)
 simp -implicitDefEqProofs[jJ,-natCast_add,-natCast_mul,-natCast_emod,-natCast_ediv,-natCast_pow]
 (first|refine Ab k ?_|refine Aa k ?_)
 simp -implicitDefEqProofs[jJ,-natCast_add,-natCast_mul,-natCast_emod,-natCast_ediv,-natCast_pow,Ep]
end Go.Va
namespace Go.Va
open Go.Proofs
theorem jai{neg:Bool}{m d:Nat}(hd:0<d):sg neg (m/Nat.gcd m d)=sg neg m:=by
 have hg:0<Nat.gcd m d:=Nat.gcd_pos_of_pos_right m hd;have h:0<m/Nat.gcd m d↔0<m:=by
  constructor
  ·intro h;have:=Nat.div_le_self m (Nat.gcd m d);omega
  ·intro h;exact Nat.div_pos (Nat.le_of_dvd h (Nat.gcd_dvd_left m d)) hg
 unfold sg;simp only[h]
end Go.Va
namespace Go.Va
open Int (natCast_add natCast_mul natCast_emod natCast_ediv natCast_pow)
open Go.Proofs
def Bz(z:Int):List RC:=[.d (.bool (decide (z<0))),.d (Ac (limbs z.natAbs))]
theorem P6(neg:Bool)(n:Nat):AO neg n=Bz (toZ neg n):=by
 unfold AO Bz toZ sg;cases neg with
 |false=>simp
 |true=>
  have:decide (-(n:Int)<0)=decide (0<n):=decide_eq_decide.2 (by omega)
  simp[this]
theorem FX{neg:Bool}{n:Nat}{z:Int}(h:toZ neg n=z):AO neg n=Bz z:=by rw[P6,h]
theorem Ue(na nb:Bool)(a b:List Nat)(ha:Ok a)(hl:a.length≤100000)(hb:Ok b)(hm:b.length≤100000):
  CallsF Tryz.prog 339 [.agg [.bool na,Ac a],.agg [.bool nb,Ac b]] (.u (.agg (Bz (toZ na (val a)+toZ nb (val b))))):=by
 have kc:=KM a b ha (by omega) hb (by omega)
 have kA:=jgT a b ha hl hb hm;have kS:=RB a b ha hl hb hm;have kS':=RB b a hb hm ha hl;generalize val a=m at*;generalize val b=n at*;clear ha hl hb hm;have k1:=Ig na (m+n);have k2:=Ig na (m - n);have k3:=Ig nb (n - m);by_cases hs:na=nb
 ·subst hs;have e:AO na (m+n)=Bz (toZ na m+toZ na n):=FX (by unfold toZ;cases na<;>simp<;>omega)
  rw[e]at k1
  unfold Bz at*;generalize toZ na m+toZ na n=z at*;refine Ak (T:=tb) Ah mixed Tryz.func339 rfl (by decide) (Af rfl) rfl ?_;unfold St.init
  simp -implicitDefEqProofs[jJ,-natCast_add,-natCast_mul];refine At (Ad [0,1,0,4,0,16,60,127,255]) [.any [] [] (Ap [[2],[12],[2],[14],[3],[16],[15,17]]),.one,.one] (by rfl) ?_
  simp -implicitDefEqProofs[jJ,-natCast_add,-natCast_mul]
  (first|refine Ab kA ?_|refine Aa kA ?_)
  simp -implicitDefEqProofs[jJ,-natCast_add,-natCast_mul]
  (first|refine Ab k1 ?_|refine Aa k1 ?_)
  simp -implicitDefEqProofs[jJ,-natCast_add,-natCast_mul]
 ·by_cases hlt:m<n
  ·have kS':=kS' (by omega)
   have hc:cmp3 m n<0:=by rw[HN hlt];omega
   have e:AO nb (n - m)=Bz (toZ na m+toZ nb n):=FX (by unfold toZ;cases na<;>cases nb<;>simp at hs ⊢ <;>omega)
   rw[e]at k3
   unfold Bz at*;generalize toZ na m+toZ nb n=z at*;refine Ak (T:=tb) Ah mixed Tryz.func339 rfl (by decide) (Af rfl) rfl ?_;unfold St.init
   simp -implicitDefEqProofs[jJ,-natCast_add,-natCast_mul,hs]
   (first|refine Ab kc ?_|refine Aa kc ?_)
   simp -implicitDefEqProofs[jJ,-natCast_add,-natCast_mul,hc]
   (first|refine Ab kS' ?_|refine Aa kS' ?_)
   simp -implicitDefEqProofs[jJ,-natCast_add,-natCast_mul]
   (first|refine Ab k3 ?_|refine Aa k3 ?_)
   simp -implicitDefEqProofs[jJ,-natCast_add,-natCast_mul]
  ·have kS:=kS (by omega)
   have hc: ¬cmp3 m n<0:=by
    unfold cmp3;rw[if_neg (by omega)]
    split<;>omega
   have e:AO na (m - n)=Bz (toZ na m+toZ nb n):=FX (by unfold toZ;cases na<;>cases nb<;>simp at hs ⊢ <;>omega)
   rw[e]at k2
   unfold Bz at*;generalize toZ na m+toZ nb n=z at*;refine Ak (T:=tb) Ah mixed Tryz.func339 rfl (by decide) (Af rfl) rfl ?_;unfold St.init
   simp -implicitDefEqProofs[jJ,-natCast_add,-natCast_mul,hs]
   (first|refine Ab kc ?_|refine Aa kc ?_)
   simp -implicitDefEqProofs[jJ,-natCast_add,-natCast_mul,hc]
   (first|refine Ab kS ?_|refine Aa kS ?_)
   simp -implicitDefEqProofs[jJ,-natCast_add,-natCast_mul]
   (first|refine Ab k2 ?_|refine Aa k2 ?_)
   simp -implicitDefEqProofs[jJ,-natCast_add,-natCast_mul]
end Go.Va
