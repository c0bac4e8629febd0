/- a part of the proof -/
import Derived.Test.YtkfdniccmcolgaaGreatQbb
import Derived.Test.YtkfdniccmcolgaaGreatQay
set_option linter.all false
set_option maxHeartbeats 4000000
set_option maxRecDepth 10000
namespace Go.Va
open Int (natCast_add natCast_mul natCast_emod natCast_ediv natCast_pow)
open Go.Proofs
theorem ZW(a:List Nat)(ha:Ok a)(hl:a.length≤1099511627776):CallsA Tryz.prog 240 1 a.length (a.map u16) [] (limbs (val a)).length ((limbs (val a)).map u16):=by
 have e:=HT a ha;have hle:=B0 a ha;have es:a.map u16=(limbs (val a)).map u16++(a.drop (limbs (val a)).length).map u16:=by
  rw[←List.map_append]
  congr 1
  conv=>lhs;rw[←List.take_append_drop (limbs (val a)).length a]
  congr 1
  rw[←e,AG]
  have:=Hi a a.length
  rw[AU this]
 refine CallsA.less (more:=(a.drop (limbs (val a)).length).map u16) ?_;rw[←es];have em:(limbs (val a)).length=Bk a a.length:=by
  rw[←e,AG,AU (Hi a a.length)]
 rw[em]
 clear es e hle;refine Gt (T:=tb) Ad mixed Tryz.func240 rfl (by decide) (Ac rfl) rfl ?_;unfold St.initA
 simp -implicitDefEqProofs[jJ,-natCast_add,-natCast_mul,-natCast_emod,-natCast_ediv,-natCast_pow,-List.map_set,BK];refine Av (fun n:Nat=>⟨[(0,vC (.sl 2000000 0 a.length)),(3,vI .i64 n)],[(2000000,.row 1 (a.map u16) true)]⟩) (fun n=>n≤a.length∧Bk a n=Bk a a.length) (fun n=>n) a.length
  (by simp[An,lk,St.le,vI,vC]) ⟨AA _,rfl⟩ ?_
 rintro n ⟨hn,ht⟩
 have hl2:=Hi a a.length;cases n with
 |zero=>
  have h0:Bk a a.length=0:=by rw[←ht];rfl
  simp -implicitDefEqProofs[jJ,-natCast_add,-natCast_mul,-natCast_emod,-natCast_ediv,-natCast_pow,-List.map_set,h0];exact⟨.inl rfl,2000000,rfl,by simp[lk]⟩
 |succ n=>
  obtain⟨x,hx⟩:=Gp (a:=a) (n:=n) (by omega)
  simp -implicitDefEqProofs[jJ,-natCast_add,-natCast_mul,-natCast_emod,-natCast_ediv,-natCast_pow,-List.map_set,hx,u16];refine⟨by omega,by omega,fun h0=>⟨by omega,by omega,?_⟩,fun h0=>⟨by omega,?_⟩⟩
  ·rw[←ht];simp[Bk,hx,h0]
  ·have hm:Bk a a.length=n+1:=by rw[←ht];simp[Bk,hx,h0]
   rw[hm]
   exact⟨.inl rfl,2000000,rfl,by simp[lk]⟩
def B3(s:Nat):List Nat→Nat→List Nat
 |[],c=>[c]
 |x::a,c=>(c+x*2^s%65536)::B3 s a (x*2^s/65536)
theorem Gm{s:Nat}(h:s<16):0<2^s∧2^s≤32768:=by
 constructor
 ·exact Nat.pow_pos (by omega)
 ·have:2^s≤2^15:=Nat.pow_le_pow_right (by omega) (by omega)
  simpa using this
theorem Qb{s x c:Nat}(hs:s<16)(hx:x<65536)(hc:c<2^s):c+x*2^s%65536<65536∧x*2^s/65536<2^s:=by
 have hp:=Gm hs;have e:65536=2^s*2^(16 - s):=by rw[←Nat.pow_add,show s+(16 - s)=16 by omega]
 have h1:x*2^s%65536=2^s*(x%2^(16 - s)):=by
  rw[Nat.mul_comm x]
  conv=>lhs;rw[e]
  exact Nat.mul_mod_mul_left _ _ _
 have h2:x%2^(16 - s)<2^(16 - s):=Nat.mod_lt _ (Nat.pow_pos (by omega))
 have h3:2^s*(x%2^(16 - s)+1)≤2^s*2^(16 - s):=Nat.mul_le_mul_left _ h2;rw[Nat.mul_add,Nat.mul_one,←e]at h3;refine⟨by rw[h1];omega,?_⟩
 rw[Nat.div_lt_iff_lt_mul (by omega),Nat.mul_comm (2^s) 65536]
 exact Nat.mul_lt_mul_of_pos_right hx hp.1
theorem SF{s:Nat}(hs:s<16): ∀(a:List Nat) (c:Nat),Ok a→c<2^s→Ok (B3 s a c)∧val (B3 s a c)=val a*2^s+c∧(B3 s a c).length=a.length+1
 |[],c,_,hc=>by
  have hp:=Gm hs;exact⟨Ok.cons (by omega) Ok.nil,by simp[B3,val],rfl⟩
 |x::a,c,h,hc=>by
  obtain⟨l1,l2⟩:=Qb hs h.head hc
  obtain⟨i1,i2,i3⟩:=SF hs a _ h.tail l2
  refine⟨Ok.cons l1 i1,?_,by simp[B3,i3]⟩
  rw[B3,val,i2,val,Nat.add_mul,Nat.mul_add,Nat.mul_assoc]
  have:=Nat.div_add_mod (x*2^s) 65536
  generalize val a*2^s=A at*;omega
theorem jg2(a b:Nat)(ha:a<65536)(hb:b<65536):D8 .u16 (a:Int) (b:Int)=((a|||b:Nat):Int):=by
 unfold D8
 show IntKind.u16.wrap (((BitVec.ofInt 16 (a:Int)|||BitVec.ofInt 16 (b:Int)).toNat:Nat):Int)=_
 have hl:a|||b<2^16:=Nat.or_lt_two_pow (n:=16) ha hb
 rw[BitVec.ofInt_natCast,BitVec.ofInt_natCast,BitVec.toNat_or,BitVec.toNat_ofNat,BitVec.toNat_ofNat,AH (a:=a) ha,AH (a:=b) hb,JT _ hl]
theorem Yy{s x c:Nat}(hs:s<16)(hx:x<65536)(hc:c<2^s):D8 .u16 (c:Int) ((x*2^s%65536:Nat):Int)=((c+x*2^s%65536:Nat):Int):=by
 have hp:=Gm hs;have e:65536=2^s*2^(16 - s):=by rw[←Nat.pow_add,show s+(16 - s)=16 by omega]
 have h1:x*2^s%65536=2^s*(x%2^(16 - s)):=by
  rw[Nat.mul_comm x]
  conv=>lhs;rw[e]
  exact Nat.mul_mod_mul_left _ _ _
 rw[jg2 _ _ (by omega) (Nat.mod_lt _ (by omega)),h1,JS _ _ _ hc]
theorem jgL{s:Nat}(hs:s<16)(a:List Nat)(ha:Ok a): ∃(W K:Nat→List Nat) (C:Nat→Nat),W 0=List.replicate (a.length+1) 0∧W a.length=B3 s a 0∧(∀i,i≤a.length→(W i).length=a.length+1∧(W i)[i]? =some (C i)∧C i<2^s)∧
  ∀i (h:i<a.length),((W i).set i (C i+a[i]*2^s%65536)).set (i+1) (a[i]*2^s/65536)=W (i+1):=by
 let P:Nat→List Nat:=fun i=>(B3 s (a.take i) 0).take i
 let C:Nat→Nat:=fun i=>(B3 s (a.take i) 0).getD i 0
 have key: ∀i,i≤a.length→B3 s (a.take i) 0=P i++[C i]∧(P i).length=i∧C i<2^s∧(∀h:i<a.length,P (i+1)=P i++[C i+a[i]*2^s%65536]∧C (i+1)=a[i]*2^s/65536):=by
  have snoc: ∀(l:List Nat) (x c:Nat),∃q k,B3 s l c=q++[k]∧q.length=l.length∧B3 s (l++[x]) c=q++[k+x*2^s%65536,x*2^s/65536]:=by
   intro l x
   induction l with
   |nil=>intro c;exact⟨[],c,rfl,rfl,rfl⟩
   |cons y l ih=>
    intro c;obtain⟨q,k,h1,h2,h3⟩:=ih (y*2^s/65536);exact⟨(c+y*2^s%65536)::q,k,by rw[B3,h1];rfl,by simp[h2],by rw[List.cons_append,B3,h3];rfl⟩
  have one: ∀i,i≤a.length→B3 s (a.take i) 0=P i++[C i]∧(P i).length=i:=fun i hi=>by
   obtain⟨q,k,h1,h2,_⟩:=snoc (a.take i) 0 0
   have hq:q.length=i:=by rw[h2,AG];omega
   have hP:P i=q:=by
    show(B3 s (a.take i) 0).take i=q
    rw[h1,List.take_append,hq,Nat.sub_self,List.take_zero,List.append_nil,AI (by omega)]
   have hC:C i=k:=by
    show(B3 s (a.take i) 0).getD i 0=k
    rw[h1,Ar,List.getElem?_append_right (by omega),hq,Nat.sub_self];rfl
   rw[hP,hC]
   exact⟨h1,hq⟩
  intro i hi;obtain⟨o1,o2⟩:=one i hi;have st: ∀h:i<a.length,P (i+1)=P i++[C i+a[i]*2^s%65536]∧C (i+1)=a[i]*2^s/65536:=fun h=>by
   obtain⟨q,k,h1,h2,h3⟩:=snoc (a.take i) a[i] 0
   rw[←AQ h]at h3
   obtain⟨p1,p2⟩:=one (i+1) (by omega)
   have hq:q.length=i:=by rw[h2,AG];omega
   rw[o1]at h1
   obtain⟨e1,e2⟩:=List.append_inj h1 (by omega)
   rw[p1]at h3
   have h4:P (i+1)++[C (i+1)]=(q++[k+a[i]*2^s%65536])++[a[i]*2^s/65536]:=by rw[h3];simp
   obtain⟨f1,f2⟩:=List.append_inj h4 (by simp[p2,hq])
   rw[f1,e1]
   simp at e2 f2;exact⟨by rw[e2],f2⟩
  refine⟨o1,o2,?_,st⟩
  cases i with
  |zero=>
   show(B3 s (a.take 0) 0).getD 0 0<2^s
   simp[B3]
   exact Nat.pow_pos (by omega)
  |succ i=>
   obtain⟨q,k,h1,h2,h3⟩:=snoc (a.take i) (a[i]'(by omega)) 0
   rw[←AQ (by omega)]at h3
   have hx:=ha _ (Ak (show i<a.length by omega))
   have hp:=Gm hs;have:C (i+1)=a[i]'(by omega)*2^s/65536:=by
    show(B3 s (a.take (i+1)) 0).getD (i+1) 0=_
    have hq:q.length=i:=by rw[h2,AG];omega
    rw[h3,Ar,List.getElem?_append_right (by omega),hq]
    simp
   rw[this,Nat.div_lt_iff_lt_mul (by omega),Nat.mul_comm (2^s) 65536]
   exact Nat.mul_lt_mul_of_pos_right hx hp.1
 refine⟨fun i=>P i++C i::List.replicate (a.length - i) 0,P,C,?_,?_,fun i hi=> ?_,fun i h=> ?_⟩
 ·obtain⟨k1,k2,_⟩:=key 0 (by omega)
  have hP:P 0=[]:=jzv.1 k2
  have hC:C 0=0:=rfl
  simp only;rw[hP,hC,Nat.sub_zero];rfl
 ·obtain⟨k1,_⟩:=key a.length (AA _)
  rw[AZ]at k1
  simp only;rw[k1,Nat.sub_self];rfl
 ·obtain⟨k1,k2,k3,_⟩:=key i hi
  simp only;refine⟨by simp[k2];omega,?_,k3⟩
  rw[List.getElem?_append_right (by omega),k2,Nat.sub_self]
  rfl
 ·obtain⟨k1,k2,k3,k4⟩:=key i (by omega)
  obtain⟨f1,f2⟩:=k4 h
  simp only;rw[f1,f2,show a.length - i=(a.length - (i+1))+1 by omega,List.replicate_succ,List.set_append_right _ _ (by omega),k2,Nat.sub_self,List.set_append_right _ _ (by omega),k2,show i+1 - i=1 by omega]
  simp
theorem Ov(a:List Nat)(s:Nat)(ha:Ok a)(hl:a.length≤1000)(h0:val a≠0)(hs:s<16):
  CallsF Tryz.prog 285 [.c (Ab a),.c (.int .i64 s)] (.u (.c (.own 1 (limbs (val a*2^s)).length ((limbs (val a*2^s)).map u16)))):=by
 have k1:=C1 a ha (by omega)
 have hle:=B0 a ha;have ho:=Ap (val a);have hv:=Am (val a);generalize limbs (val a)=b at*;rw[←hv];have hb0:b≠[]:=by intro e;rw[e]at hv;exact h0 hv.symm
 have hbl:0<b.length:=List.length_pos_iff.2 hb0;obtain⟨W,K,C,hW0,hWn,hW,hst⟩:=jgL hs b ho;obtain⟨v1,v2,v3⟩:=SF hs b 0 ho (Nat.pow_pos (by omega))
 have kt:=ZW (B3 s b 0) v1 (by omega)
 rw[v2,Nat.add_zero,v3,←hWn]at kt
 have q0:(s:Int).tdiv 16=0:=by
  rw[Int.tdiv_eq_ediv_of_nonneg (by omega)];omega
 have q1:(s:Int).tmod 16=s:=by
  rw[Int.tmod_eq_emod_of_nonneg (by omega)];omega
 have s1: ¬1048576<s:=by omega
 have s2:s/16=0:=by omega
 have s3:s%16=s:=by omega
 clear h0 hv;refine Ae (T:=tb) Ad mixed Tryz.func285 rfl (by decide) (Ac rfl) rfl ?_;unfold St.init
 simp -implicitDefEqProofs[jJ,-natCast_add,-natCast_mul,-natCast_emod,-natCast_ediv,-natCast_pow,-List.map_set];refine Aa k1 ?_;have s4: ¬(s:Int)< -1048576:=by omega
 simp -implicitDefEqProofs[jJ,-natCast_add,-natCast_mul,-natCast_emod,-natCast_ediv,-natCast_pow,-List.map_set,hbl,hb0,s1,s4,q0,q1,s2,s3];refine⟨by omega,by omega,by omega,by omega,by omega,?_⟩
 refine Av (fun i:Nat=>⟨[(47,vI .i64 i),(46,vI .i64 b.length),(45,vC (.d (Ab b))),(7,vC (.sl 44 0 (b.length+1))),(6,vI .i64 s),(5,vI .i64 0)],[(44,.row 1 ((W i).map u16) true)]⟩) (fun i=>i≤b.length) (fun i=>b.length - i) 0
  (by simp[An,lk,St.le,vI,vC,hW0,u16,List.replicate_succ]) (by omega) ?_
 rintro i hi
 obtain⟨wl,wg,wc⟩:=hW i hi
 by_cases h:i<b.length
 ·have hx:b[i]<65536:=ho _ (Ak h);have hs2:=hst i h;have hp:=Gm hs;have ol:=Yy hs hx wc;have m0:b[i]%4294967296=b[i]:=AH (by omega)
  have mm:b[i]*2^s≤65535*32768:=Nat.mul_le_mul (by omega) hp.2
  have sl:DR .u32 (b[i]:Int) (s:Int)=((b[i]*2^s:Nat):Int):=by
   rw[Nv _ _ (by omega),AH (by omega)]
  have m1:b[i]*2^s/65536%65536=b[i]*2^s/65536:=AH (by omega)
  have lo:=(Qb hs hx wc).1;generalize b[i]*2^s=t at*;have e1:=DB (W i) i (C i+t%65536) (by omega)
  simp -implicitDefEqProofs[jJ,-natCast_add,-natCast_mul,-natCast_emod,-natCast_ediv,-natCast_pow,-List.map_set,h,wg,m0,sl,ol,m1,u16];rw[e1];refine⟨by omega,by omega,by omega,by omega,by omega,by simp;omega,by omega,i+1,⟨rfl,?_⟩,by omega,by omega⟩
  rw[DB _ _ _ (by simp;omega),hs2]
 ·have hi2:i=b.length:=by omega
  subst hi2;simp -implicitDefEqProofs[jJ,-natCast_add,-natCast_mul,-natCast_emod,-natCast_ediv,-natCast_pow,-List.map_set,h];refine .inr (.inr (.inr (.inr (.inr ⟨rfl,44,b.length+1,1,_,_,(W b.length).map u16,_,_,[],rfl,by simp[lk],rfl,rfl,kt,?_⟩))))
  simp -implicitDefEqProofs[jJ,-natCast_add,-natCast_mul,-natCast_emod,-natCast_ediv,-natCast_pow,-List.map_set,St.drop]
def rl(s:Nat):List Nat→List Nat
 |[]=>[]
 |x::a=>(x+65536*a.headD 0)/2^s%65536::rl s a
theorem S3{s:Nat}(hs:s<16): ∀a:List Nat,Ok a→Ok (rl s a)∧val (rl s a)=val a/2^s∧(rl s a).length=a.length
 |[],_=>⟨Ok.nil,by simp[rl,val],rfl⟩
 |x::a,h=>by
  obtain⟨i1,i2,i3⟩:=S3 hs a h.tail
  have hx:=h.head;refine⟨Ok.cons (Nat.mod_lt _ (by omega)) i1,?_,by simp[rl,i3]⟩
  rw[rl,val,i2,val]
  have hp:=Gm hs;have e:65536=2^s*2^(16 - s):=by rw[←Nat.pow_add,show s+(16 - s)=16 by omega]
  have hE:0<2^(16 - s):=Nat.pow_pos (by omega)
  have hy:=K3 a;generalize a.headD 0=y at*;generalize val a.tail=m at*;generalize 2^(16 - s)=E at*;generalize 2^s=D at*;have hDE: ∀k,65536*k=D*(E*k):=fun k=>by rw[←Nat.mul_assoc,←e]
  have d1:(x+65536*val a)/D=x/D+E*val a:=by rw[hDE,Nat.add_mul_div_left _ _ hp.1]
  have d2:(x+65536*y)/D=x/D+E*y:=by rw[hDE,Nat.add_mul_div_left _ _ hp.1]
  rw[d1,d2]
  have hA:=Nat.div_add_mod (val a) D;have hr:=Nat.mod_lt (val a) hp.1;have hyr:y%D=val a%D:=by
   rw[hy,hDE,Nat.add_mul_mod_self_left]
  have hY:=Nat.div_add_mod y D;rw[hyr]at hY;have hxD:x/D<E:=by
   rw[Nat.div_lt_iff_lt_mul hp.1,Nat.mul_comm,←e];exact hx
  have f1:E*val a=65536*(val a/D)+E*(val a%D):=by
   conv=>lhs;rw[←hA]
   rw[Nat.mul_add,←Nat.mul_assoc,Nat.mul_comm E D,←e]
  have f2:E*y=65536*(y/D)+E*(val a%D):=by
   conv=>lhs;rw[←hY]
   rw[Nat.mul_add,←Nat.mul_assoc,Nat.mul_comm E D,←e]
  have f3:E*(val a%D+1)≤E*D:=Nat.mul_le_mul_left _ hr;rw[Nat.mul_add,Nat.mul_one,Nat.mul_comm E D,←e]at f3;rw[f1,f2];generalize E*(val a%D)=z at*;generalize val a/D=A at*;generalize y/D=B at*;generalize x/D=X at*;omega
theorem UL(s:Nat): ∀(a:List Nat) (i:Nat) (h:i<a.length),(rl s a)[i]? =some ((a[i]+65536*a.getD (i+1) 0)/2^s%65536)
 |x::a,0,_=>by
  cases a<;>simp[rl]
 |x::a,i+1,h=>by
  have:=UL s a i (by simpa using h)
  simpa [rl]using this
theorem jal(x y:Nat)(hx:x<65536)(hy:y<65536):D8 .u32 (x:Int) (DR .u32 (y:Int) 16)=((x+65536*y:Nat):Int):=by
 have e:DR .u32 (y:Int) 16=((65536*y:Nat):Int):=by
  have:=Nv y 16 (by omega)
  rw[show(2:Nat)^16=65536 from by decide,AH (by omega),Nat.mul_comm]at this
  exact this
 rw[e,UC _ _ (by omega) (by omega)]
 have:=JS x y 16 (by omega)
 rw[show(2:Nat)^16=65536 from by decide]at this
 rw[this]
theorem YH(a:List Nat)(s:Nat)(ha:Ok a)(hl:a.length≤1000)(h0:a≠[])(hs:s<16):
  CallsF Tryz.prog 293 [.c (Ab a),.c (.int .i64 s)] (.u (.c (.d (Ab (limbs (val a/2^s)))))):=by
 have hpos:0<a.length:=List.length_pos_iff.2 h0;obtain⟨v1,v2,v3⟩:=S3 hs a ha;have kt:=C1 (rl s a) v1 (by omega)
 rw[v2]at kt
 obtain⟨W,hW0,hWn,hWl,hst⟩: ∃W:Nat→List Nat,W 0=List.replicate a.length 0∧W a.length=rl s a∧(∀i,i≤a.length→(W i).length=a.length)∧ ∀i (h:i<a.length),(W i).set i ((a[i]+65536*a.getD (i+1) 0)/2^s%65536)=W (i+1):=by
  refine⟨fun i=>(rl s a).take i++List.replicate (a.length - i) 0,by simp,by simp only[Nat.sub_self,List.replicate_zero,List.append_nil];exact AI (by omega),fun i hi=>by simp[v3];omega,fun i h=> ?_⟩
  have g:=UL s a i h;simp only;rw[List.set_append_right _ _ (by simp[v3];omega),AG,v3,AU (by omega),Nat.sub_self,show a.length - i=(a.length - (i+1))+1 by omega,List.replicate_succ,AQ (by omega:i<(rl s a).length)]
  rw[Ai (by omega)]at g
  rw[AX g]
  simp
 rw[←hWn]at kt
 have q0:(s:Int).tdiv 16=0:=by
  rw[Int.tdiv_eq_ediv_of_nonneg (by omega)];omega
 have q1:(s:Int).tmod 16=s:=by
  rw[Int.tmod_eq_emod_of_nonneg (by omega)];omega
 have s2:s/16=0:=by omega
 have s3:s%16=s:=by omega
 clear v1 v2 v3;refine Ae (T:=tb) Ad mixed Tryz.func293 rfl (by decide) (Ac rfl) rfl ?_;unfold St.init
 simp -implicitDefEqProofs[jJ,-natCast_add,-natCast_mul,-natCast_emod,-natCast_ediv,-natCast_pow,-List.map_set,q0,q1,s2,s3,hpos,h0];refine⟨by omega,by omega,?_⟩
 refine Av (fun i:Nat=>⟨[(25,vI .i64 i),(24,vI .i64 a.length),(7,vC (.sl 22 0 a.length)),(6,vI .i64 s),(5,vI .i64 0),(0,vC (.d (Ab a)))],[(22,.row 1 ((W i).map u16) true)]⟩) (fun i=>i≤a.length) (fun i=>a.length - i) 0
  (by simp[An,lk,St.le,vI,vC,hW0,u16]) (by omega) ?_
 rintro i hi
 have wl:=hWl i hi;by_cases h:i<a.length
 ·have hx:a[i]<65536:=ha _ (Ak h);have hs2:=hst i h;have m0:a[i]%4294967296=a[i]:=AH (by omega)
  by_cases h2:i+1<a.length
  ·have hy:a[i+1]<65536:=ha _ (Ak h2);have ey:a.getD (i+1) 0=a[i+1]:=by rw[Ar,Ai h2];rfl
   rw[ey]at hs2
   have m1:a[i+1]%4294967296=a[i+1]:=AH (by omega)
   have om:=jal a[i] a[i+1] hx hy;have hsh:=Mf .u32 (a[i]+65536*a[i+1]) s (by show s≤32;omega)
   simp -implicitDefEqProofs[jJ,-natCast_add,-natCast_mul,-natCast_emod,-natCast_ediv,-natCast_pow,-List.map_set,h,h2,m0,m1,om,hsh,u16];refine⟨by omega,by omega,by omega,by omega,by omega,by omega,i+1,⟨rfl,?_⟩,by omega,by omega⟩
   rw[DB _ _ _ (by omega),hs2]
  ·have ey:a.getD (i+1) 0=0:=by rw[Ar,BG (by omega)];rfl
   rw[ey,Nat.mul_zero,Nat.add_zero]at hs2
   have hsh:=Mf .u32 a[i] s (by show s≤32;omega)
   simp -implicitDefEqProofs[jJ,-natCast_add,-natCast_mul,-natCast_emod,-natCast_ediv,-natCast_pow,-List.map_set,h,h2,m0,hsh,u16];refine⟨by omega,by omega,by omega,by omega,i+1,⟨rfl,?_⟩,by omega,by omega⟩
   rw[DB _ _ _ (by omega),hs2]
 ·have hi2:i=a.length:=by omega
  subst hi2;have et:List.take a.length (List.map u16 (W a.length))=List.map u16 (W a.length):=AI (by simp[wl])
  have en:D.slice a.length (List.map u16 (W a.length))=Ab (W a.length):=by
   show _=D.slice (W a.length).length _
   rw[wl]
  simp -implicitDefEqProofs[jJ,-natCast_add,-natCast_mul,-natCast_emod,-natCast_ediv,-natCast_pow,-List.map_set,h,et,en];refine .inl ⟨by omega,_,kt,?_⟩
  simp -implicitDefEqProofs[jJ,-natCast_add,-natCast_mul,-natCast_emod,-natCast_ediv,-natCast_pow,-List.map_set]
theorem jaD(a:List Nat)(s:Nat)(ha:Ok a)(hl:a.length≤1000)(hs0:0<s)(hs:s<16):
  CallsF Tryz.prog 285 [.c (Ab a),.c (.int .i64 (-(s:Int)))] (.u (.c (.d (Ab (limbs (val a/2^s)))))):=by
 have k1:=C1 a ha (by omega)
 have hle:=B0 a ha;have ho:=Ap (val a);have hv:=Am (val a);generalize limbs (val a)=b at*;rw[←hv];have s0:(-(s:Int))<0:=by omega
 have s1: ¬(-(s:Int))< -1048576:=by omega
 have s2: ¬1048576<(-(s:Int)):=by omega
 by_cases hb:b=[]
 ·subst hb;have e:limbs (val ([]:List Nat)/2^s)=[]:=by simp[val,limbs];rfl
  rw[e]
  refine Ae (T:=tb) Ad mixed Tryz.func285 rfl (by decide) (Ac rfl) rfl ?_;unfold St.init
  simp -implicitDefEqProofs[jJ,-natCast_add,-natCast_mul,-natCast_emod,-natCast_ediv,-natCast_pow,-List.map_set];refine Aa k1 ?_;simp -implicitDefEqProofs[jJ,-natCast_add,-natCast_mul,-natCast_emod,-natCast_ediv,-natCast_pow,-List.map_set,s0,s1,s2];rfl
 ·have k2:=YH b s ho (by omega) hb hs
  have hbl:0<b.length:=List.length_pos_iff.2 hb;have n1: -(-(s:Int))=s:=by omega
  refine Ae (T:=tb) Ad mixed Tryz.func285 rfl (by decide) (Ac rfl) rfl ?_;unfold St.init
  simp -implicitDefEqProofs[jJ,-natCast_add,-natCast_mul,-natCast_emod,-natCast_ediv,-natCast_pow,-List.map_set];refine Aa k1 ?_;simp -implicitDefEqProofs[jJ,-natCast_add,-natCast_mul,-natCast_emod,-natCast_ediv,-natCast_pow,-List.map_set,s0,s1,s2,hb,hbl,n1,hs0];refine⟨by omega,?_⟩
  refine Aa k2 ?_;simp -implicitDefEqProofs[jJ,-natCast_add,-natCast_mul,-natCast_emod,-natCast_ediv,-natCast_pow,-List.map_set]
end Go.Va
