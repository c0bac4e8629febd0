/- a part of the proof -/
import Derived.Test.YtlgoebgnbkhmmaaGreatDoorZaq
import Derived.Test.YtlgoebgnbkhmmaaGreatDoorZas
import Derived.Test.YtlgoebgnbkhmmaaGreatDoorZan
import Derived.Test.YtlgoebgnbkhmmaaGreatDoorZap
set_option linter.all false
set_option maxHeartbeats 4000000
set_option maxRecDepth 10000
namespace Go.Va
open Int renaming natCast_add → qA, natCast_mul → qB, natCast_emod → qC, natCast_ediv → qD, natCast_pow → qE
open List renaming reduceReplicate → qF
open Go.Proofs
theorem Tp: ∀h:Fin 256,h.val<2^t8 h.val∧(h.val≠0→128≤h.val*2^(8 - t8 h.val))∧t8 h.val≤8∧(h.val≠0→0<t8 h.val):=by decide+kernel
theorem QO{x:Nat}(h0:x≠0)(hx:x<65536):len16 x≤16∧0<len16 x∧32768≤x*2^(16 - len16 x)∧x*2^(16 - len16 x)<65536:=by
 unfold len16;split
 ·rename_i h
  obtain⟨h1,h2,h3,h4⟩:=Tp ⟨x,h⟩
  simp only at h1 h2 h3 h4;have h2:=h2 h0;have h4:=h4 h0;generalize t8 x=t at*;have e:16 - t=8+(8 - t):=by omega
  rw[e,Nat.pow_add,Nat.mul_left_comm]
  have e2:2^t*2^(8 - t)=256:=by rw[←Nat.pow_add,show t+(8 - t)=8 by omega]
  have h5:x*2^(8 - t)<2^t*2^(8 - t):=Nat.mul_lt_mul_of_pos_right h1 (Nat.pow_pos (by omega))
  rw[e2]at h5
  generalize x*2^(8 - t)=z at*;omega
 ·rename_i h
  obtain⟨h1,h2,h3,h4⟩:=Tp ⟨x/256,by omega⟩
  simp only at h1 h2 h3 h4;have h2:=h2 (by omega)
  have h4:=h4 (by omega)
  generalize t8 (x/256)=t at*;rw[show 16 - (8+t)=8 - t by omega]
  have e2:2^t*2^(8 - t)=256:=by rw[←Nat.pow_add,show t+(8 - t)=8 by omega]
  have h5:(x/256+1)*2^(8 - t)≤2^t*2^(8 - t):=BC _ h1;rw[e2]at h5;have h6:256*(x/256)*2^(8 - t)≤x*2^(8 - t):=BC _ (by omega)
  have h7:(x+1)*2^(8 - t)≤256*(x/256+1)*2^(8 - t):=BC _ (by omega)
  rw[Nat.mul_assoc]at h6 h7
  rw[Nat.add_mul,Nat.one_mul]at h7
  have hp:0<2^(8 - t):=Nat.pow_pos (by omega)
  omega
theorem ji3(x:Nat)(h0:x≠0)(hx:x<65536):CallsF Tryz.prog 384 [.c (.int .u16 x)] (.u (.c (.d (.int .i64 (16 - len16 x:Nat))))):=by
 have k:=RW x hx;have hs:=QO h0 hx;have e:(16:Int) - (len16 x:Nat)=((16 - len16 x:Nat):Int):=by omega
 generalize len16 x=t at*;refine cO Tryz.func384 rfl ?_;simp -implicitDefEqProofs[jJ,-qA,-qB,-qC,-qD,-qE,-List.map_set];refine Ac k ?_;simp -implicitDefEqProofs[jJ,-qA,-qB,-qC,-qD,-qE,-List.map_set,e];omega
theorem Mr{v:Nat}(h:v≠0):65536^((limbs v).length - 1)≤v:=by
 obtain⟨x,hx,h1,h2⟩:=J9 h
 have hv:=Az v;generalize limbs v=l at*;have hlt:=(jzg.1 hx).1;have e:l=l.take (l.length - 1)++[x]:=by
  have h3:l.drop (l.length - 1)=[x]:=by
   rw[BQ hlt,DU (by omega)]
   rw[AD hlt]at hx
   rw[Bi hx]
  conv=>lhs;rw[←List.take_append_drop (l.length - 1) l]
  rw[h3]
 rw[←hv]
 conv=>rhs;rw[e]
 rw[CF,A8,Bs (by omega)]
 have:65536^(l.length - 1)*1≤65536^(l.length - 1)*val [x]:=Nat.mul_le_mul_left _ (by simp[val];omega)
 omega
theorem jjp{v n:Nat}(hn:0<n)(h1:65536^(n - 1)≤v)(h2:v<65536^n):(limbs v).length=n:=by
 have h0:v≠0:=by have:0<65536^(n - 1):=Nat.pow_pos (by omega);omega
 have a1:=Mr h0;have a2:=Bz _ (Aw v);rw[Az]at a2;have b1:n - 1<(limbs v).length:=by
  apply Classical.byContradiction
  intro h;have:65536^(limbs v).length≤65536^(n - 1):=Nat.pow_le_pow_right (by omega) (by omega)
  omega
 have b2:(limbs v).length - 1<n:=by
  apply Classical.byContradiction
  intro h;have:65536^n≤65536^((limbs v).length - 1):=Nat.pow_le_pow_right (by omega) (by omega)
  omega
 omega
theorem jgu(n:Nat):val (List.replicate n 0)=0:=by
 induction n with
 |zero=>rfl
 |succ n ih=>rw[List.replicate_succ,val,ih]
structure DmOk (x y n s:Nat) (u V:List Nat):Prop where
 hs:s<16
 ov:Ok V
 lv:V.length=n
 vv:val V=y*2^s
 top:32768≤V.getD (n - 1) 0
 ou:Ok u
 lu:u.length=(limbs x).length+1
 vu:val u=x*2^s
 lt:V.length<u.length
 hd:val (u.drop (u.length - V.length))<val V
theorem jfd{x y:Nat}(hxy:y≤x)(hn:2≤(limbs y).length): ∃t,(limbs y)[(limbs y).length - 1]? =some t∧t≠0∧t<65536∧(limbs (x*2^(16 - len16 t))).length≤(limbs x).length+1∧(limbs x).length≤(limbs (x*2^(16 - len16 t))).length∧
  DmOk x y (limbs y).length (16 - len16 t) ((limbs (x*2^(16 - len16 t))++[0,0]).take ((limbs x).length+1)) (limbs (y*2^(16 - len16 t))):=by
 have hy0:y≠0:=by intro e;subst e;simp[limbs,FQ]at hn
 obtain⟨t,ht,t0,t1⟩:=J9 hy0
 obtain⟨s1,s2,s3,s4⟩:=QO (x:=t) (by omega) t1
 refine⟨t,ht,by omega,t1,?_⟩
 have hs:16 - len16 t<16:=by omega
 generalize 16 - len16 t=s at*;have hp:=Ff hs;have hyv:=Az y;have hyo:=Aw y;have ey:y=val ((limbs y).take ((limbs y).length - 1))+65536^((limbs y).length - 1)*t∧val ((limbs y).take ((limbs y).length - 1))<65536^((limbs y).length - 1):=by
  have hlt:=(jzg.1 ht).1;have e:limbs y=(limbs y).take ((limbs y).length - 1)++[t]:=by
   have h3:(limbs y).drop ((limbs y).length - 1)=[t]:=by
    rw[BQ hlt,DU (by omega)]
    rw[AD hlt]at ht
    rw[Bi ht]
   conv=>lhs;rw[←List.take_append_drop ((limbs y).length - 1) (limbs y)]
   rw[h3]
  have hl:=Bz _ (hyo.take ((limbs y).length - 1));rw[A8,Bs (by omega)]at hl
  refine⟨?_,hl⟩
  conv=>lhs;rw[←hyv,e]
  rw[CF,A8,Bs (by omega)]
  simp[val]
 generalize hnn:(limbs y).length=n at*;generalize val ((limbs y).take (n - 1))=lw at*;have hP:65536^n=65536^(n - 1)*65536:=by
  conv=>lhs;rw[show n=n - 1+1 by omega]
  rw[Nat.pow_succ]
 have hPp:0<65536^(n - 1):=Nat.pow_pos (by omega)
 have e65:65536=2^s*2^(16 - s):=by rw[←Nat.pow_add,show s+(16 - s)=16 by omega]
 have ht2:(t+1)*2^s≤65536:=by
  have:t<2^(16 - s):=by
   have h5:t*2^s<2^(16 - s)*2^s:=by rw[Nat.mul_comm (2^(16 - s)),←e65];exact s4
   exact Nat.lt_of_mul_lt_mul_right h5
  have h6:(t+1)*2^s≤2^(16 - s)*2^s:=BC _ this;rw[Nat.mul_comm (2^(16 - s)),←e65]at h6;exact h6
 have ey2:y*2^s=lw*2^s+65536^(n - 1)*(t*2^s):=by
  conv=>lhs;rw[ey.1]
  rw[Nat.add_mul,Nat.mul_assoc]
 have hlow:lw*2^s<65536^(n - 1)*2^s:=Nat.mul_lt_mul_of_pos_right ey.2 hp.1;have hlo2:65536^(n - 1)*32768≤65536^(n - 1)*(t*2^s):=Nat.mul_le_mul_left _ s3;have hhi2:65536^(n - 1)*(t*2^s)+65536^(n - 1)*2^s≤65536^(n - 1)*65536:=by
  rw[←Nat.mul_add]
  exact Nat.mul_le_mul_left _ (by rw[Nat.add_mul,Nat.one_mul]at ht2;exact ht2)
 have lV:(limbs (y*2^s)).length=n:=jjp (by omega) (by omega) (by rw[hP];omega)
 have oV:=Aw (y*2^s);have vV:=Az (y*2^s);have topV:32768≤(limbs (y*2^s)).getD (n - 1) 0:=by
  have h2:=Hm lV (by omega) oV
  have hw:=Bz _ (oV.take (n - 1));rw[A8,Bs (by omega)]at hw
  have e:limbs (y*2^s)=(limbs (y*2^s)).take (n - 1)++[(limbs (y*2^s)).getD (n - 1) 0]:=by
   have h3:(limbs (y*2^s)).drop (n - 1)=[(limbs (y*2^s)).getD (n - 1) 0]:=by
    rw[BQ (by omega),DU (by omega),AL,AD (by omega)]
    rfl
   conv=>lhs;rw[←List.take_append_drop (n - 1) (limbs (y*2^s))]
   rw[h3]
  have h4:val (limbs (y*2^s))=val ((limbs (y*2^s)).take (n - 1))+65536^(n - 1)*(limbs (y*2^s)).getD (n - 1) 0:=by
   conv=>lhs;rw[e]
   rw[CF,A8,Bs (by omega)]
   simp[val]
  rw[vV]at h4
  apply Classical.byContradiction
  intro hc;have:65536^(n - 1)*((limbs (y*2^s)).getD (n - 1) 0+1)≤65536^(n - 1)*32768:=Nat.mul_le_mul_left _ (by omega)
  rw[Nat.mul_add,Nat.mul_one]at this
  omega
 have hx0:x≠0:=by omega
 have ax:=Mr hx0;have bx:=Bz _ (Aw x);rw[Az]at bx;have hmn:n≤(limbs x).length:=by
  rw[←hnn]
  exact CG hxy
 generalize hm:(limbs x).length=m at*;have hx2:x≤x*2^s:=Nat.le_mul_of_pos_right _ hp.1;have lX1:m≤(limbs (x*2^s)).length:=by rw[←hm];exact CG hx2
 have hxs:x*2^s<65536^m*2^s:=Nat.mul_lt_mul_of_pos_right bx hp.1;have lX2:(limbs (x*2^s)).length≤m+1:=by
  have h1:=Mr (v:=x*2^s) (by omega)
  apply Classical.byContradiction
  intro hc;have h2:65536^(m+1)≤65536^((limbs (x*2^s)).length - 1):=Nat.pow_le_pow_right (by omega) (by omega)
  have h3:65536^m*2^s≤65536^m*65536:=Nat.mul_le_mul_left _ (by omega)
  rw[Nat.pow_succ]at h2
  omega
 refine⟨lX2,lX1,?_⟩
 have oX:=Aw (x*2^s);have vX:=Az (x*2^s);have eu:(limbs (x*2^s)++[0,0]).take (m+1)=limbs (x*2^s)++List.replicate (m+1 - (limbs (x*2^s)).length) 0:=by
  rw[List.take_append,Ba lX2]
  congr 1
  have:m+1 - (limbs (x*2^s)).length=0∨m+1 - (limbs (x*2^s)).length=1:=by omega
  rcases this with h|h<;>rw[h]<;>rfl
 have ou:Ok ((limbs (x*2^s)++[0,0]).take (m+1)):=by
  rw[eu]
  exact ok_app oX fun y hy=>by have:=List.eq_of_mem_replicate hy;omega
 have lu:((limbs (x*2^s)++[0,0]).take (m+1)).length=m+1:=by
  rw[eu,List.length_append,List.length_replicate];omega
 have vu:val ((limbs (x*2^s)++[0,0]).take (m+1))=x*2^s:=by
  rw[eu,CF,jgu,Nat.mul_zero,Nat.add_zero,vX]
 generalize (limbs (x*2^s)++[0,0]).take (m+1)=u at*;refine⟨hs,oV,lV,vV,topV,ou,by rw[lu,hm],vu,by omega,?_⟩
 rw[lu,lV,vV]
 have e4:val u=val (u.take (m+1 - n))+65536^(m+1 - n)*val (u.drop (m+1 - n)):=by
  conv=>lhs;rw[←List.take_append_drop (m+1 - n) u]
  rw[CF,A8,Bs (by omega)]
 rw[vu]at e4
 apply Classical.byContradiction
 intro hc;have h7:65536^(m+1 - n)*(65536^(n - 1)*32768)≤65536^(m+1 - n)*val (u.drop (m+1 - n)):=Nat.mul_le_mul_left _ (by omega)
 rw[←Nat.mul_assoc,←Nat.pow_add,show m+1 - n+(n - 1)=m by omega]at h7
 have h8:65536^m*2^s≤65536^m*32768:=Nat.mul_le_mul_left _ hp.2;omega
theorem WG(s:Nat)(hs:s<16):
  CallsF Tryz.prog 385 [.c (Ad []),.c (.int .i64 s)] (.u (.c (.d (Ad [])))):=by
 have k1:=B2 [] (fun y hy=>by cases hy) (by simp)
 have e:limbs (val ([]:List Nat))=[]:=rfl
 rw[e]at k1
 have s1: ¬(s:Int)< -1048576:=by omega
 have s2: ¬1048576<s:=by omega
 refine cO Tryz.func385 rfl ?_;simp -implicitDefEqProofs[jJ,-qA,-qB,-qC,-qD,-qE,-List.map_set];refine Ac k1 ?_
 simp -implicitDefEqProofs[jJ,-qA,-qB,-qC,-qD,-qE,-List.map_set,s1,s2];rfl
theorem jjL(r s:Nat)(hs:s<16)(hl:(limbs (r*2^s)).length≤1000):
  CallsF Tryz.prog 385 [.c (Ad (limbs (r*2^s))),.c (.int .i64 (-(s:Int)))] (.u (.c (.d (Ad (limbs r))))):=by
 have ho:=Aw (r*2^s);have hv:=Az (r*2^s);by_cases hs0:s=0
 ·subst hs0;simp only[Nat.pow_zero,Nat.mul_one,Int.natCast_zero,Int.neg_zero]at*;by_cases hr:r=0
  ·subst hr;have k:=WG 0 (by omega)
   have e:limbs 0=[]:=rfl
   rw[e]
   exact k
  ·have k:=(MG (limbs r) 0 ho hl (by omega) (by omega)).dat
   simp only[R.dat,RU.dat,RC.dat,hv,Nat.pow_zero,Nat.mul_one]at k;rw[Ba (by simp)]at k
   exact k
 ·have k:=jh2 (limbs (r*2^s)) s ho hl (by omega) hs
  rw[hv,Nat.mul_div_cancel _ (Nat.pow_pos (by omega))]at k
  exact k
theorem LV(a b:List Nat)(ha:Ok a)(hb:Ok b)(hl:a.length≤900)(hm:b.length≤900)(h0:val b≠0):
  CallsF Tryz.prog 342 [.c (Ad a),.c (Ad b)] (.tup [.c (.d (Ad (limbs (val a/val b)))),.c (.d (Ad (limbs (val a%val b)))),.c (.d (.int .i64 0))]):=by
 have t1:=B2 a ha (by omega)
 have t2:=B2 b hb (by omega)
 have la:=Bu a ha;have lb:=Bu b hb;have oa:=Aw (val a);have ob:=Aw (val b);have va:=Az (val a);have vb:=Az (val b);have kc:=Jr (limbs (val a)) (limbs (val b)) oa (by omega) ob (by omega)
 have kn:=EO (limbs (val a)) oa (by omega)
 rw[va,vb]at kc
 rw[va]at kn
 have nb:limbs (val b)≠[]:=fun e=>h0 (limbs_nil.1 e)
 generalize hA:limbs (val a)=A at*;generalize hB:limbs (val b)=B at*;have pb:0<B.length:=List.length_pos_iff.2 nb;refine cO Tryz.func342 rfl ?_;simp -implicitDefEqProofs[jJ,-qA,-qB,-qC,-qD,-qE,-List.map_set];refine Ac t1 ?_;simp -implicitDefEqProofs[jJ,-qA,-qB,-qC,-qD,-qE,-List.map_set];refine Ac t2 ?_;simp -implicitDefEqProofs[jJ,-qA,-qB,-qC,-qD,-qE,-List.map_set,nb];refine Ac kc ?_;by_cases c1:val a<val b
 ·have e1:cmp3 (val a) (val b)= -1:=by unfold cmp3;rw[if_pos c1]
  have e2:limbs (val a/val b)=[]:=by rw[Nat.div_eq_of_lt c1];rfl
  rw[e1,e2,AX c1,hA]
  simp -implicitDefEqProofs[jJ,-qA,-qB,-qC,-qD,-qE,-List.map_set];refine Ac kn ?_;simp -implicitDefEqProofs[jJ,-qA,-qB,-qC,-qD,-qE,-List.map_set]
  first|rfl|exact⟨rfl,rfl⟩|exact rfl
 ·have e1: ¬cmp3 (val a) (val b)<0:=by unfold cmp3;rw[if_neg c1];split<;>omega
  generalize cmp3 (val a) (val b)=rc at*;by_cases c2:B.length=1
  ·obtain⟨d,rfl⟩: ∃d,B=[d]:=by
    match B,c2 with
    |[d],_=>exact⟨d,rfl⟩
   have hd:val b=d:=by rw[←vb];simp[val]
   have d16:d<65536:=ob.head;have kb:=Sd A d oa (by omega) (by omega) d16
   have hr:val A%d<65536:=Nat.lt_trans (Nat.mod_lt _ (by omega)) d16
   have kf:=IA (val A%d) (by omega)
   have mr:val A%d%18446744073709551616=val A%d:=AX (by omega)
   rw[va]at kb kf hr mr
   rw[hd]
   simp -implicitDefEqProofs[jJ,-qA,-qB,-qC,-qD,-qE,-List.map_set,e1,u16];refine Ac kb ?_;simp -implicitDefEqProofs[jJ,-qA,-qB,-qC,-qD,-qE,-List.map_set,mr];refine Ac kf ?_;simp -implicitDefEqProofs[jJ,-qA,-qB,-qC,-qD,-qE,-List.map_set]
  ·obtain⟨t,ht,t0,t1,lX2,lX1,Dm⟩:=jfd (x:=val a) (y:=val b) (by omega) (by rw[hB];omega)
   have kz:=ji3 t t0 t1;rw[hB]at ht Dm;rw[hA]at lX2 lX1 Dm;generalize 16 - len16 t=s at*;have k1:=MG A s oa (by omega) (by rw[va];omega) Dm.hs
   have k2:=(MG B s ob (by omega) (by rw[vb];exact h0) Dm.hs).dat
   rw[va]at k1
   rw[vb]at k2
   simp only[R.dat,RU.dat,RC.dat]at k2;rw[Ba (by simp)]at k2
   have eV:D.slice (limbs (val b*2^s)).length ((limbs (val b*2^s)).map u16)=Ad (limbs (val b*2^s)):=rfl
   rw[eV]at k2
   generalize limbs (val b*2^s)=V at*;generalize limbs (val a*2^s)=X at*;generalize hU:(X++[0,0]).take (A.length+1)=U at*;have n1:(B.length:Int) - 1=((B.length - 1:Nat):Int):=by omega
   have hlu:=Dm.lu;rw[hA]at hlu;have kL:=jet 54 (X++[0,0]) true U V [] (fun j b h=>by cases h) Dm.ou Dm.ov (by rw[Dm.lv];omega) (by rw[Dm.lv];exact Dm.top) Dm.lt Dm.hd (by omega) (by rw[hlu,←hU];rfl) (by simp;omega)
   have hend:=Gj Dm.ou Dm.ov (by rw[Dm.lv];omega) (by rw[Dm.lv];exact Dm.top) Dm.lt Dm.hd _ (AO _)
   have hval:=K9 Dm.ou Dm.ov (by rw[Dm.lv];omega) (by rw[Dm.lv];exact Dm.top) Dm.lt Dm.hd
   rw[Dm.vu,Dm.vv]at hval
   have hp:=Ff Dm.hs;rw[Nat.mul_mod_mul_right]at hval;generalize (Cs U V (U.length - V.length)).1=F at*;simp -implicitDefEqProofs[jJ,-qA,-qB,-qC,-qD,-qE,-List.map_set,e1,c2,n1,ht,u16];refine⟨by omega,by omega,?_⟩
   refine Ac kz ?_;simp -implicitDefEqProofs[jJ,-qA,-qB,-qC,-qD,-qE,-List.map_set];refine Ac k1 ?_
   simp -implicitDefEqProofs[jJ,-qA,-qB,-qC,-qD,-qE,-List.map_set];refine⟨by omega,by omega,by omega,?_⟩
   have er:(X++[0,0]).map u16=X.map u16++[.int .u16 0,.int .u16 0]:=by rw[List.map_append];rfl
   have hF:F.length=A.length+1:=by rw[hend.lu,hlu]
   have et:List.take (A.length+1) (splice 0 (F.map u16) (X.map u16++[.int .u16 0,.int .u16 0]))=F.map u16:=by
    unfold splice;rw[List.take_zero,List.nil_append,List.take_append,List.length_map,hF,Nat.sub_self,List.take_zero,List.append_nil,Ba (by simp[hF])]
   have en:D.slice (A.length+1) (F.map u16)=Ad F:=by
    show _=D.slice F.length _
    rw[hF]
   rw[er,Nat.zero_mul,hlu,Dm.vu,Dm.vv,Nat.mul_div_mul_right _ _ hp.1]at kL
   have ktF:=B2 F hend.ou (by omega)
   rw[hval.2]at ktF
   refine Ac k2 ?_;simp -implicitDefEqProofs[jJ,-qA,-qB,-qC,-qD,-qE,-List.map_set];refine .inr (.inl (Hn kL (by simp[DB,Go.Va.U.all,C.id?]) (by simp[lk]) ?_))
   simp -implicitDefEqProofs[jJ,-qA,-qB,-qC,-qD,-qE,-List.map_set,St.backW,et,en];refine .inl ⟨by rw[Nl]<;>simp[hF]<;>omega,_,ktF,?_⟩
   have hlr:(limbs (val a%val b*2^s)).length≤1000:=by
    have:=Bu F hend.ou
    rw[hval.2]at this
    omega
   have kb:=jjL (val a%val b) s Dm.hs hlr;simp -implicitDefEqProofs[jJ,-qA,-qB,-qC,-qD,-qE,-List.map_set];have hs16:=Dm.hs;refine⟨by omega,?_⟩
   refine Ac kb ?_;simp -implicitDefEqProofs[jJ,-qA,-qB,-qC,-qD,-qE,-List.map_set,St.backW,et,en]
theorem L5(a b:List Nat)(ha:Ok a)(hl:a.length≤900)(hb:Ok b)(hm:b.length≤900):
  CallsF Tryz.prog 306 [.c (Ad a),.c (Ad b)] (.u (.c (.d (Ad (limbs (Nat.gcd (val a) (val b))))))):=by
 refine cO Tryz.func306 rfl ?_;simp -implicitDefEqProofs[jJ,-qA,-qB,-qC,-qD,-qE]
 (first|refine Ac (EO a ha (by omega)) ?_|refine Ae (EO a ha (by omega)) ?_)
 simp -implicitDefEqProofs[jJ,-qA,-qB,-qC,-qD,-qE]
 (first|refine Ac (EO b hb (by omega)) ?_|refine Ae (EO b hb (by omega)) ?_)
 simp -implicitDefEqProofs[jJ,-qA,-qB,-qC,-qD,-qE];have la:=Bu a ha;have lb:=Bu b hb;have l1:(limbs (val a)).length≤900:=by omega
 have l2:(limbs (val b)).length≤900:=by omega
 clear hl hm ha hb la lb;generalize val a=m at*;generalize val b=n at*;refine AV (fun p:Nat×Nat=>⟨[(0,vC (.d (Ad (limbs p.1)))),(1,vC (.d (Ad (limbs p.2))))],[]⟩) (fun p=>Nat.gcd p.1 p.2=Nat.gcd m n∧(limbs p.1).length≤900∧(limbs p.2).length≤900) (fun p=>p.2) (m,n) (by simp) ⟨rfl,l1,l2⟩ ?_
 rintro⟨x,y⟩ ⟨g1,g2,g3⟩
 simp only at g1 g2 g3;by_cases h0:y=0
 ·subst h0;simp -implicitDefEqProofs[jJ,-qA,-qB,-qC,-qD,-qE,Cm];rw[←g1,Nat.gcd_zero_right]
 ·have hp:0<(limbs y).length:=limbs_pos_len.2 (by omega)
  have u1:=S4 (limbs x) (Aw _) (by omega)
  have u2:=S4 (limbs y) (Aw _) (by omega)
  rw[Az]at u1 u2
  have d:=LV (limbs x) (limbs y) (Aw _) (Aw _) g2 g3 (by rw[Az];exact h0)
  rw[Az,Az]at d
  have hml:(limbs (x%y)).length≤900:=Nat.le_trans (CG (Nat.le_of_lt (Nat.mod_lt _ (by omega)))) g3
  have hstep:Nat.gcd y (x%y)=Nat.gcd m n:=by rw[Nat.gcd_comm,←Nat.gcd_rec,Nat.gcd_comm,g1]
  have hlt:x%y<y:=Nat.mod_lt _ (by omega)
  simp -implicitDefEqProofs[jJ,-qA,-qB,-qC,-qD,-qE,hp]
  (first|refine Ac u1 ?_|refine Ae u1 ?_)
  simp -implicitDefEqProofs[jJ,-qA,-qB,-qC,-qD,-qE]
  (first|refine Ac u2 ?_|refine Ae u2 ?_)
  simp -implicitDefEqProofs[jJ,-qA,-qB,-qC,-qD,-qE];cases f1:EL x
  ·simp -implicitDefEqProofs[jJ,-qA,-qB,-qC,-qD,-qE,f1]
   (first|refine Ac d ?_|refine Ae d ?_)
   simp -implicitDefEqProofs[jJ,-qA,-qB,-qC,-qD,-qE];exact⟨y,x%y,⟨rfl,rfl⟩,⟨hstep,g3,hml⟩,hlt⟩
  ·cases f2:EL y
   ·simp -implicitDefEqProofs[jJ,-qA,-qB,-qC,-qD,-qE,f1,f2]
    (first|refine Ac d ?_|refine Ae d ?_)
    simp -implicitDefEqProofs[jJ,-qA,-qB,-qC,-qD,-qE];exact⟨y,x%y,⟨rfl,rfl⟩,⟨hstep,g3,hml⟩,hlt⟩
   ·have k1:FV x=x:=by simp[FV,f1]
    have k2:FV y=y:=by simp[FV,f2]
    have h1:=fits64_iff.1 f1;have h2:=fits64_iff.1 f2;simp -implicitDefEqProofs[jJ,-qA,-qB,-qC,-qD,-qE,f1,f2,k1,k2];refine AV (fun p:Nat×Nat=>⟨[(5,vI .u64 p.1),(7,vI .u64 p.2)],[]⟩) (fun p=>Nat.gcd p.1 p.2=Nat.gcd m n∧p.1<18446744073709551616∧p.2<18446744073709551616) (fun p=>p.2) (x,y) (by simp[AW,lk,St.le,vI,vC,k1,k2]) ⟨g1,h1,h2⟩ ?_
    rintro⟨z,w⟩ ⟨q1,q2,q3⟩
    simp only at q1 q2 q3;by_cases hy:0<w
    ·simp -implicitDefEqProofs[jJ,-qA,-qB,-qC,-qD,-qE,hy];refine AA (Ah [0,0,0,6,3,31]) [.any [] [] (Aq [[7],[5],[7],[36,37],[35]]),.one] (by rfl) ?_
     have hy0:w≠0:=by omega
     simp -implicitDefEqProofs[jJ,-qA,-qB,-qC,-qD,-qE,hy0];refine⟨w,z%w,⟨rfl,rfl⟩,⟨?_,q3,Nat.lt_of_le_of_lt (Nat.mod_le _ _) q2⟩,Nat.mod_lt _ hy⟩;rw[Nat.gcd_comm,←Nat.gcd_rec,Nat.gcd_comm,q1]
    ·have:w=0:=by omega
     subst this;simp -implicitDefEqProofs[jJ,-qA,-qB,-qC,-qD,-qE]
     (first|refine Ac (IA z q2) ?_|refine Ae (IA z q2) ?_)
     simp -implicitDefEqProofs[jJ,-qA,-qB,-qC,-qD,-qE];rw[←q1,Nat.gcd_zero_right]
theorem jmo(a:List Nat):CallsF Tryz.prog 215 [.c (Ad a)] (.u (.agg [.d (.bool false),.d (Ad a)])):=by
 refine cO Tryz.func215 rfl ?_;simp -implicitDefEqProofs[jJ,-qA,-qB]
theorem El(neg:Bool)(a b:List Nat)(hb:Ok b)(hm:b.length≤1099511627776)(h0:val b≠0):
  CallsF Tryz.prog 212 [.agg [.bool neg,Ad a,Ad b]] (.tup [.agg [.d (.bool neg),.d (Ad a)],.c (.d (Ad b))]):=by
 refine cO Tryz.func212 rfl ?_;simp -implicitDefEqProofs[jJ,-qA,-qB];refine Ac (RH b hb hm) ?_
 have hz:FN (val b)≠0:=fun h=>h0 ((Oy _).1 h)
 simp -implicitDefEqProofs[jJ,-qA,-qB,hz];refine AA (Ah [0,1,0,4,3,31]) [.any [] [] [⟨0,[1],[],[],[]⟩,⟨0,[10],[],[],[]⟩,⟨0,[1],[2],[],[]⟩,⟨0,[12],[2],[],[]⟩,⟨2,[2,11],[],[],[2]⟩],.one] (by rfl) ?_
 simp -implicitDefEqProofs[jJ,-qA,-qB]
theorem jmP(a b:Int):Nk a b=0↔a=b:=by
 unfold Nk;split
 ·simp;omega
 ·split
  ·simp;omega
  ·simp;omega
theorem jcw(neg:Bool)(m d:Nat):LG neg (m*d)=LG neg m*d:=by
 unfold LG;split
 ·rw[Int.neg_mul,Int.natCast_mul]
 ·rw[Int.natCast_mul]
theorem Ea:limbs 1=[1]:=rfl
def CV(neg:Bool)(a b:List Nat):Bool:=Nr a&& !(neg&&decide (a=[]))&& !decide (b=[])&&Nr b&&decide (Nat.gcd (val a) (val b)=1)
theorem Hx{n:Nat}:limbs n=[1]↔n=1:=by
 constructor
 ·intro h;have:=Az n;rw[h]at this
  simpa [val]using this.symm
 ·rintro rfl;rfl
theorem PB(neg:Bool)(a b:List Nat)(ha:Ok a)(hl:a.length≤900)(hb:Ok b)(hm:b.length≤900):
  CallsF Tryz.prog 209 [.agg [.bool neg,Ad a,Ad b]] (.u (.c (.d (.bool (CV neg a b))))):=by
 refine cO Tryz.func209 rfl ?_;have k:=jbv neg a (by omega)
 have g:=L5 a b ha (by omega) hb (by omega)
 unfold CV;cases hr:(Nr a&& !(neg&&decide (a=[])))
 ·rw[hr]at k
  simp -implicitDefEqProofs[jJ,-qA,-qB];refine Ac k ?_;simp -implicitDefEqProofs[jJ,-qA,-qB]
 ·rw[hr]at k
  rcases Nat.eq_zero_or_pos b.length with h0|h0
  ·have:b=[]:=jzv.1 h0
   subst this;simp -implicitDefEqProofs[jJ,-qA,-qB];refine Ac k ?_;simp -implicitDefEqProofs[jJ,-qA,-qB]
  ·obtain⟨n,hn⟩: ∃n,b.length=n+1:=⟨b.length - 1,by omega⟩
   have hne:b≠[]:=fun h=>by rw[h]at hn;simp at hn
   obtain⟨x,hx⟩:=EI (a:=b) (n:=n) (by omega)
   have hg:b.getLast? =some x:=by rw[List.getLast?_eq_getElem?,hn];simpa using hx
   have e:b[n]'(by omega)=x:=by
    have:=AD (l:=b) (i:=n) (by omega)
    rw[hx]at this
    exact(Bi this).symm
   have o1:=EK b;have o2:=EK (limbs (Nat.gcd (val a) (val b)));have v1:b=[1]→val b=1:=fun h=>by rw[h];rfl
   have hlast:Nr b= !decide (x=0):=by unfold Nr;rw[hg];simp
   rw[hlast]
   simp -implicitDefEqProofs[jJ,-qA,-qB,hn];refine Ac k ?_;simp -implicitDefEqProofs[jJ,-qA,-qB,hn,hx,u16,e,hne];refine⟨by omega,fun h h'=>absurd h h',fun hx0=> ?_⟩
   refine Ac o1 ?_;by_cases hb1:b=[1]
   ·have e1:Nat.gcd (val a) (val b)=1:=by rw[v1 hb1,Nat.gcd_one_right]
    simp -implicitDefEqProofs[jJ,-qA,-qB,hb1,hx0];rw[←hb1,e1]
   ·simp -implicitDefEqProofs[jJ,-qA,-qB,hb1,hx0];refine Ac g ?_;simp -implicitDefEqProofs[jJ,-qA,-qB];refine Ac o2 ?_;simp -implicitDefEqProofs[jJ,-qA,-qB,Hx]
theorem jfj{m d:Nat}:decide (limbs d=[1])=decide (d=1):=by simp[Hx]
theorem Zd{neg:Bool}{m:Nat}:Bg neg m=0↔m=0:=by
 unfold Bg;split
 ·simp[*]
 ·cases neg<;>simp[*]
end Go.Va
namespace Go.Va
open Go.Proofs
theorem joF(p c x y:Nat):p*((c+x+y)%65536)+p*65536*((c+x+y)/65536)=p*c+p*x+p*y:=by
 have h:=Nat.div_add_mod (c+x+y) 65536;rw[Nat.mul_assoc,←Nat.mul_add,Nat.add_comm,h,Nat.mul_add,Nat.mul_add]
theorem jma{o:List Nat}{i v:Nat}(h:i<o.length):val ((o.set i v).take (i+1))=val (o.take i)+65536^i*v:=by
 rw[Dp (by simpa using h),List.take_set_of_le (AO _),AL,List.getElem?_set_self h,Option.getD_some]
theorem jd6{o:List Nat}(ho:Ok o)(h:o=[]∨65536^(o.length - 1)≤val o):o=limbs (val o):=by
 have h1:=Gc o ho;have h2:=FF o o.length;have h3:(limbs (val o)).length=Bw o o.length:=by rw[←h1,A8];omega
 rcases h with rfl|h
 ·rfl
 ·have h4:=Bz (limbs (val o)) (Aw _);rw[Az]at h4;have h5:o.length - 1<(limbs (val o)).length:=by
   rcases Nat.lt_or_ge (o.length - 1) (limbs (val o)).length with h6|h6
   ·exact h6
   ·have:=Nat.pow_le_pow_right (show 0<65536 by omega) h6
    omega
  rw[←h1,Ba (by omega)]
theorem HP{p d r:Nat}{x y c:Nat}(h:x+65536*d=y+c+r):p*r+p*y+p*c=p*x+p*65536*d:=by
 have h1:p*(x+65536*d)=p*(y+c+r):=by rw[h]
 rw[Nat.mul_add,Nat.mul_add,Nat.mul_add,←Nat.mul_assoc]at h1
 omega
end Go.Va
