/- a part of the proof -/
import Derived.Test.YtlgoebgnbkhmmaaGreatDoorZap
set_option linter.all false
set_option maxHeartbeats 4000000
set_option maxRecDepth 10000
namespace Go.Va
open Int renaming natCast_add → qA, natCast_mul → qB, natCast_emod → qC, natCast_ediv → qD, natCast_pow → qE
open List renaming reduceReplicate → qF
open Go.Proofs
theorem CallsA.less{P:Program}{f:FuncId}{sz n m:Nat}{cs cs' more:List D}{al:List A}(h:CallsA P f sz n cs al m (cs'++more)):CallsA P f sz n cs al m cs':=by
 refine⟨h.1,fun w Z ρ k v0 vals hZ hh hcz hone hv0 hv=>(h.2 w Z ρ k v0 vals hZ hh hcz hone hv0 hv).mono fun e w' ⟨v,he,ρ',h1,h2,h3,h4,h5⟩=>⟨v,he,ρ',h1,⟨h2.owns,fun j b hjb=> ?_⟩,h3,h4,h5⟩⟩
 by_cases e:j=k
 ·subst e;rw[Bt]at hjb;cases hjb;obtain⟨o,ho,q1,q2,q3,q4,q5⟩:=h2.rep j _ (Bt _ _ _);refine⟨o,ho,q1,q2,by simp at q3 ⊢;omega,q4,fun t x hx=>q5 t x ?_⟩
  rw[List.getElem?_append_left (jzg.1 hx).1]
  exact hx
 ·rw[BD e]at hjb;cases hjb
theorem jgw(a:List Nat)(ha:Ok a)(hl:a.length≤1099511627776):CallsA Tryz.prog 372 1 a.length (a.map u16) [] (limbs (val a)).length ((limbs (val a)).map u16):=by
 have e:=Gc a ha;have hle:=Bu a ha;have es:a.map u16=(limbs (val a)).map u16++(a.drop (limbs (val a)).length).map u16:=by
  rw[←List.map_append]
  congr 1
  conv=>lhs;rw[←List.take_append_drop (limbs (val a)).length a]
  congr 1
  rw[←e,A8]
  have:=FF a a.length
  rw[Bs this]
 refine CallsA.less (more:=(a.drop (limbs (val a)).length).map u16) ?_;rw[←es];have em:(limbs (val a)).length=Bw a a.length:=by
  rw[←e,A8,Bs (FF a a.length)]
 rw[em]
 clear es e hle;refine Rc (T:=tb) Ak mixed Tryz.func372 rfl (by decide) (Al rfl) rfl ?_;unfold St.initA
 simp -implicitDefEqProofs[jJ,-qA,-qB,-qC,-qD,-qE,-List.map_set,BK];refine AV (fun n:Nat=>⟨[(0,vC (.sl 2000000 0 a.length)),(3,vI .i64 n)],[(2000000,.row 1 (a.map u16) true)]⟩) (fun n=>n≤a.length∧Bw a n=Bw a a.length) (fun n=>n) a.length
  (by simp[AW,lk,St.le,vI,vC]) ⟨AO _,rfl⟩ ?_
 rintro n ⟨hn,ht⟩
 have hl2:=FF a a.length;cases n with
 |zero=>
  have h0:Bw a a.length=0:=by rw[←ht];rfl
  simp -implicitDefEqProofs[jJ,-qA,-qB,-qC,-qD,-qE,-List.map_set,h0];exact⟨.inl rfl,2000000,rfl,by simp[lk]⟩
 |succ n=>
  obtain⟨x,hx⟩:=EI (a:=a) (n:=n) (by omega)
  simp -implicitDefEqProofs[jJ,-qA,-qB,-qC,-qD,-qE,-List.map_set,hx,u16];refine⟨by omega,by omega,fun h0=>⟨by omega,by omega,?_⟩,fun h0=>⟨by omega,?_⟩⟩
  ·rw[←ht];simp[Bw,hx,h0]
  ·have hm:Bw a a.length=n+1:=by rw[←ht];simp[Bw,hx,h0]
   rw[hm]
   exact⟨.inl rfl,2000000,rfl,by simp[lk]⟩
def B0(s:Nat):List Nat→Nat→List Nat
 |[],c=>[c]
 |x::a,c=>(c+x*2^s%65536)::B0 s a (x*2^s/65536)
theorem Ff{s:Nat}(h:s<16):0<2^s∧2^s≤32768:=by
 constructor
 ·exact Nat.pow_pos (by omega)
 ·have:2^s≤2^15:=Nat.pow_le_pow_right (by omega) (by omega)
  simpa using this
theorem Of{s x c:Nat}(hs:s<16)(hx:x<65536)(hc:c<2^s):c+x*2^s%65536<65536∧x*2^s/65536<2^s:=by
 have hp:=Ff hs;have e:65536=2^s*2^(16 - s):=by rw[←Nat.pow_add,show s+(16 - s)=16 by omega]
 have h1:x*2^s%65536=2^s*(x%2^(16 - s)):=by
  rw[Nat.mul_comm x]
  conv=>lhs;rw[e]
  exact Nat.mul_mod_mul_left _ _ _
 have h2:x%2^(16 - s)<2^(16 - s):=Nat.mod_lt _ (Nat.pow_pos (by omega))
 have h3:2^s*(x%2^(16 - s)+1)≤2^s*2^(16 - s):=Nat.mul_le_mul_left _ h2;rw[Nat.mul_add,Nat.mul_one,←e]at h3;refine⟨by rw[h1];omega,?_⟩
 rw[Nat.div_lt_iff_lt_mul (by omega),Nat.mul_comm (2^s) 65536]
 exact Nat.mul_lt_mul_of_pos_right hx hp.1
theorem TH{s:Nat}(hs:s<16): ∀(a:List Nat) (c:Nat),Ok a→c<2^s→Ok (B0 s a c)∧val (B0 s a c)=val a*2^s+c∧(B0 s a c).length=a.length+1
 |[],c,_,hc=>by
  have hp:=Ff hs;exact⟨Ok.cons (by omega) Ok.nil,by simp[B0,val],rfl⟩
 |x::a,c,h,hc=>by
  obtain⟨l1,l2⟩:=Of hs h.head hc
  obtain⟨i1,i2,i3⟩:=TH hs a _ h.tail l2
  refine⟨Ok.cons l1 i1,?_,by simp[B0,i3]⟩
  rw[B0,val,i2,val,Nat.add_mul,Nat.mul_add,Nat.mul_assoc]
  have:=Nat.div_add_mod (x*2^s) 65536
  generalize val a*2^s=A at*;omega
theorem XQ(a b:Nat)(ha:a<65536)(hb:b<65536):Da .u16 (a:Int) (b:Int)=((a|||b:Nat):Int):=by
 unfold Da
 show IntKind.u16.wrap (((BitVec.ofInt 16 (a:Int)|||BitVec.ofInt 16 (b:Int)).toNat:Nat):Int)=_
 have hl:a|||b<2^16:=Nat.or_lt_two_pow (n:=16) ha hb
 rw[BitVec.ofInt_natCast,BitVec.ofInt_natCast,BitVec.toNat_or,BitVec.toNat_ofNat,BitVec.toNat_ofNat,AX (a:=a) ha,AX (a:=b) hb,DV _ hl]
theorem jaS{s x c:Nat}(hs:s<16)(hx:x<65536)(hc:c<2^s):Da .u16 (c:Int) ((x*2^s%65536:Nat):Int)=((c+x*2^s%65536:Nat):Int):=by
 have hp:=Ff hs;have e:65536=2^s*2^(16 - s):=by rw[←Nat.pow_add,show s+(16 - s)=16 by omega]
 have h1:x*2^s%65536=2^s*(x%2^(16 - s)):=by
  rw[Nat.mul_comm x]
  conv=>lhs;rw[e]
  exact Nat.mul_mod_mul_left _ _ _
 rw[XQ _ _ (by omega) (Nat.mod_lt _ (by omega)),h1,IM _ _ _ hc]
theorem jeu{s:Nat}(hs:s<16)(a:List Nat)(ha:Ok a): ∃(W K:Nat→List Nat) (C:Nat→Nat),W 0=List.replicate (a.length+1) 0∧W a.length=B0 s a 0∧(∀i,i≤a.length→(W i).length=a.length+1∧(W i)[i]? =some (C i)∧C i<2^s)∧
  ∀i (h:i<a.length),((W i).set i (C i+a[i]*2^s%65536)).set (i+1) (a[i]*2^s/65536)=W (i+1):=by
 let P:Nat→List Nat:=fun i=>(B0 s (a.take i) 0).take i
 let C:Nat→Nat:=fun i=>(B0 s (a.take i) 0).getD i 0
 have key: ∀i,i≤a.length→B0 s (a.take i) 0=P i++[C i]∧(P i).length=i∧C i<2^s∧(∀h:i<a.length,P (i+1)=P i++[C i+a[i]*2^s%65536]∧C (i+1)=a[i]*2^s/65536):=by
  have snoc: ∀(l:List Nat) (x c:Nat),∃q k,B0 s l c=q++[k]∧q.length=l.length∧B0 s (l++[x]) c=q++[k+x*2^s%65536,x*2^s/65536]:=by
   intro l x
   induction l with
   |nil=>intro c;exact⟨[],c,rfl,rfl,rfl⟩
   |cons y l ih=>
    intro c;obtain⟨q,k,h1,h2,h3⟩:=ih (y*2^s/65536);exact⟨(c+y*2^s%65536)::q,k,by rw[B0,h1];rfl,by simp[h2],by rw[List.cons_append,B0,h3];rfl⟩
  have one: ∀i,i≤a.length→B0 s (a.take i) 0=P i++[C i]∧(P i).length=i:=fun i hi=>by
   obtain⟨q,k,h1,h2,_⟩:=snoc (a.take i) 0 0
   have hq:q.length=i:=by rw[h2,A8];omega
   have hP:P i=q:=by
    show(B0 s (a.take i) 0).take i=q
    rw[h1,List.take_append,hq,Nat.sub_self,List.take_zero,List.append_nil,Ba (by omega)]
   have hC:C i=k:=by
    show(B0 s (a.take i) 0).getD i 0=k
    rw[h1,AL,List.getElem?_append_right (by omega),hq,Nat.sub_self];rfl
   rw[hP,hC]
   exact⟨h1,hq⟩
  intro i hi;obtain⟨o1,o2⟩:=one i hi;have st: ∀h:i<a.length,P (i+1)=P i++[C i+a[i]*2^s%65536]∧C (i+1)=a[i]*2^s/65536:=fun h=>by
   obtain⟨q,k,h1,h2,h3⟩:=snoc (a.take i) a[i] 0
   rw[←Cr h]at h3
   obtain⟨p1,p2⟩:=one (i+1) (by omega)
   have hq:q.length=i:=by rw[h2,A8];omega
   rw[o1]at h1
   obtain⟨e1,e2⟩:=List.append_inj h1 (by omega)
   rw[p1]at h3
   have h4:P (i+1)++[C (i+1)]=(q++[k+a[i]*2^s%65536])++[a[i]*2^s/65536]:=by rw[h3];simp
   obtain⟨f1,f2⟩:=List.append_inj h4 (by simp[p2,hq])
   rw[f1,e1]
   simp at e2 f2;exact⟨by rw[e2],f2⟩
  refine⟨o1,o2,?_,st⟩
  cases i with
  |zero=>
   show(B0 s (a.take 0) 0).getD 0 0<2^s
   simp[B0]
   exact Nat.pow_pos (by omega)
  |succ i=>
   obtain⟨q,k,h1,h2,h3⟩:=snoc (a.take i) (a[i]'(by omega)) 0
   rw[←Cr (by omega)]at h3
   have hx:=ha _ (AZ (show i<a.length by omega))
   have hp:=Ff hs;have:C (i+1)=a[i]'(by omega)*2^s/65536:=by
    show(B0 s (a.take (i+1)) 0).getD (i+1) 0=_
    have hq:q.length=i:=by rw[h2,A8];omega
    rw[h3,AL,List.getElem?_append_right (by omega),hq]
    simp
   rw[this,Nat.div_lt_iff_lt_mul (by omega),Nat.mul_comm (2^s) 65536]
   exact Nat.mul_lt_mul_of_pos_right hx hp.1
 refine⟨fun i=>P i++C i::List.replicate (a.length - i) 0,P,C,?_,?_,fun i hi=> ?_,fun i h=> ?_⟩
 ·obtain⟨k1,k2,_⟩:=key 0 (by omega)
  have hP:P 0=[]:=jzv.1 k2
  have hC:C 0=0:=rfl
  simp only;rw[hP,hC,Nat.sub_zero];rfl
 ·obtain⟨k1,_⟩:=key a.length (AO _)
  rw[BM]at k1
  simp only;rw[k1,Nat.sub_self];rfl
 ·obtain⟨k1,k2,k3,_⟩:=key i hi
  simp only;refine⟨by simp[k2];omega,?_,k3⟩
  rw[List.getElem?_append_right (by omega),k2,Nat.sub_self]
  rfl
 ·obtain⟨k1,k2,k3,k4⟩:=key i (by omega)
  obtain⟨f1,f2⟩:=k4 h
  simp only;rw[f1,f2,show a.length - i=(a.length - (i+1))+1 by omega,List.replicate_succ,List.set_append_right _ _ (by omega),k2,Nat.sub_self,List.set_append_right _ _ (by omega),k2,show i+1 - i=1 by omega]
  simp
theorem MG(a:List Nat)(s:Nat)(ha:Ok a)(hl:a.length≤1000)(h0:val a≠0)(hs:s<16):
  CallsF Tryz.prog 385 [.c (Ad a),.c (.int .i64 s)] (.u (.c (.own 1 (limbs (val a*2^s)).length ((limbs (val a*2^s)).map u16)))):=by
 have k1:=B2 a ha (by omega)
 have hle:=Bu a ha;have ho:=Aw (val a);have hv:=Az (val a);generalize limbs (val a)=b at*;rw[←hv];have hb0:b≠[]:=by intro e;rw[e]at hv;exact h0 hv.symm
 have hbl:0<b.length:=List.length_pos_iff.2 hb0;obtain⟨W,K,C,hW0,hWn,hW,hst⟩:=jeu hs b ho;obtain⟨v1,v2,v3⟩:=TH hs b 0 ho (Nat.pow_pos (by omega))
 have kt:=jgw (B0 s b 0) v1 (by omega)
 rw[v2,Nat.add_zero,v3,←hWn]at kt
 have q0:(s:Int).tdiv 16=0:=by
  rw[Int.tdiv_eq_ediv_of_nonneg (by omega)];omega
 have q1:(s:Int).tmod 16=s:=by
  rw[Int.tmod_eq_emod_of_nonneg (by omega)];omega
 have s1: ¬1048576<s:=by omega
 have s2:s/16=0:=by omega
 have s3:s%16=s:=by omega
 clear h0 hv;refine cO Tryz.func385 rfl ?_;simp -implicitDefEqProofs[jJ,-qA,-qB,-qC,-qD,-qE,-List.map_set];refine Ac k1 ?_;have s4: ¬(s:Int)< -1048576:=by omega
 simp -implicitDefEqProofs[jJ,-qA,-qB,-qC,-qD,-qE,-List.map_set,hbl,hb0,s1,s4,q0,q1,s2,s3];refine⟨by omega,by omega,by omega,by omega,by omega,?_⟩
 refine AV (fun i:Nat=>⟨[(47,vI .i64 i),(46,vI .i64 b.length),(45,vC (.d (Ad b))),(7,vC (.sl 44 0 (b.length+1))),(6,vI .i64 s),(5,vI .i64 0)],[(44,.row 1 ((W i).map u16) true)]⟩) (fun i=>i≤b.length) (fun i=>b.length - i) 0
  (by simp[AW,lk,St.le,vI,vC,hW0,u16,List.replicate_succ]) (by omega) ?_
 rintro i hi
 obtain⟨wl,wg,wc⟩:=hW i hi
 by_cases h:i<b.length
 ·have hx:b[i]<65536:=ho _ (AZ h);have hs2:=hst i h;have hp:=Ff hs;have ol:=jaS hs hx wc;have m0:b[i]%4294967296=b[i]:=AX (by omega)
  have mm:b[i]*2^s≤65535*32768:=Nat.mul_le_mul (by omega) hp.2
  have sl:CW .u32 (b[i]:Int) (s:Int)=((b[i]*2^s:Nat):Int):=by
   rw[Lu _ _ (by omega),AX (by omega)]
  have m1:b[i]*2^s/65536%65536=b[i]*2^s/65536:=AX (by omega)
  have lo:=(Of hs hx wc).1;generalize b[i]*2^s=t at*;have e1:=Ck (W i) i (C i+t%65536) (by omega)
  simp -implicitDefEqProofs[jJ,-qA,-qB,-qC,-qD,-qE,-List.map_set,h,wg,m0,sl,ol,m1,u16];rw[e1];refine⟨by omega,by omega,by omega,by omega,by omega,by simp;omega,by omega,i+1,⟨rfl,?_⟩,by omega,by omega⟩
  rw[Ck _ _ _ (by simp;omega),hs2]
 ·have hi2:i=b.length:=by omega
  subst hi2;simp -implicitDefEqProofs[jJ,-qA,-qB,-qC,-qD,-qE,-List.map_set,h];refine .inr (.inr (.inr (.inr (.inr ⟨rfl,44,b.length+1,1,_,_,(W b.length).map u16,_,_,[],rfl,by simp[lk],rfl,rfl,kt,?_⟩))))
  simp -implicitDefEqProofs[jJ,-qA,-qB,-qC,-qD,-qE,-List.map_set,St.drop]
def rl(s:Nat):List Nat→List Nat
 |[]=>[]
 |x::a=>(x+65536*a.headD 0)/2^s%65536::rl s a
theorem Pd{s:Nat}(hs:s<16): ∀a:List Nat,Ok a→Ok (rl s a)∧val (rl s a)=val a/2^s∧(rl s a).length=a.length
 |[],_=>⟨Ok.nil,by simp[rl,val],rfl⟩
 |x::a,h=>by
  obtain⟨i1,i2,i3⟩:=Pd hs a h.tail
  have hx:=h.head;refine⟨Ok.cons (Nat.mod_lt _ (by omega)) i1,?_,by simp[rl,i3]⟩
  rw[rl,val,i2,val]
  have hp:=Ff hs;have e:65536=2^s*2^(16 - s):=by rw[←Nat.pow_add,show s+(16 - s)=16 by omega]
  have hE:0<2^(16 - s):=Nat.pow_pos (by omega)
  have hy:=J7 a;generalize a.headD 0=y at*;generalize val a.tail=m at*;generalize 2^(16 - s)=E at*;generalize 2^s=D at*;have hDE: ∀k,65536*k=D*(E*k):=fun k=>by rw[←Nat.mul_assoc,←e]
  have d1:(x+65536*val a)/D=x/D+E*val a:=by rw[hDE,Nat.add_mul_div_left _ _ hp.1]
  have d2:(x+65536*y)/D=x/D+E*y:=by rw[hDE,Nat.add_mul_div_left _ _ hp.1]
  rw[d1,d2]
  have hA:=Nat.div_add_mod (val a) D;have hr:=Nat.mod_lt (val a) hp.1;have hyr:y%D=val a%D:=by
   rw[hy,hDE,Nat.add_mul_mod_self_left]
  have hY:=Nat.div_add_mod y D;rw[hyr]at hY;have hxD:x/D<E:=by
   rw[Nat.div_lt_iff_lt_mul hp.1,Nat.mul_comm,←e];exact hx
  have f1:E*val a=65536*(val a/D)+E*(val a%D):=by
   conv=>lhs;rw[←hA]
   rw[Nat.mul_add,←Nat.mul_assoc,Nat.mul_comm E D,←e]
  have f2:E*y=65536*(y/D)+E*(val a%D):=by
   conv=>lhs;rw[←hY]
   rw[Nat.mul_add,←Nat.mul_assoc,Nat.mul_comm E D,←e]
  have f3:E*(val a%D+1)≤E*D:=Nat.mul_le_mul_left _ hr;rw[Nat.mul_add,Nat.mul_one,Nat.mul_comm E D,←e]at f3;rw[f1,f2];generalize E*(val a%D)=z at*;generalize val a/D=A at*;generalize y/D=B at*;generalize x/D=X at*;omega
theorem UF(s:Nat): ∀(a:List Nat) (i:Nat) (h:i<a.length),(rl s a)[i]? =some ((a[i]+65536*a.getD (i+1) 0)/2^s%65536)
 |x::a,0,_=>by
  cases a<;>simp[rl]
 |x::a,i+1,h=>by
  have:=UF s a i (by simpa using h)
  simpa [rl]using this
theorem jke(x y:Nat)(hx:x<65536)(hy:y<65536):Da .u32 (x:Int) (CW .u32 (y:Int) 16)=((x+65536*y:Nat):Int):=by
 have e:CW .u32 (y:Int) 16=((65536*y:Nat):Int):=by
  have:=Lu y 16 (by omega)
  rw[show(2:Nat)^16=65536 from by decide,AX (by omega),Nat.mul_comm]at this
  exact this
 rw[e,Rf _ _ (by omega) (by omega)]
 have:=IM x y 16 (by omega)
 rw[show(2:Nat)^16=65536 from by decide]at this
 rw[this]
theorem jkN(a:List Nat)(s:Nat)(ha:Ok a)(hl:a.length≤1000)(h0:a≠[])(hs:s<16):
  CallsF Tryz.prog 409 [.c (Ad a),.c (.int .i64 s)] (.u (.c (.d (Ad (limbs (val a/2^s)))))):=by
 have hpos:0<a.length:=List.length_pos_iff.2 h0;obtain⟨v1,v2,v3⟩:=Pd hs a ha;have kt:=B2 (rl s a) v1 (by omega)
 rw[v2]at kt
 obtain⟨W,hW0,hWn,hWl,hst⟩: ∃W:Nat→List Nat,W 0=List.replicate a.length 0∧W a.length=rl s a∧(∀i,i≤a.length→(W i).length=a.length)∧ ∀i (h:i<a.length),(W i).set i ((a[i]+65536*a.getD (i+1) 0)/2^s%65536)=W (i+1):=by
  refine⟨fun i=>(rl s a).take i++List.replicate (a.length - i) 0,by simp,by simp only[Nat.sub_self,List.replicate_zero,List.append_nil];exact Ba (by omega),fun i hi=>by simp[v3];omega,fun i h=> ?_⟩
  have g:=UF s a i h;simp only;rw[List.set_append_right _ _ (by simp[v3];omega),A8,v3,Bs (by omega),Nat.sub_self,show a.length - i=(a.length - (i+1))+1 by omega,List.replicate_succ,Cr (by omega:i<(rl s a).length)]
  rw[AD (by omega)]at g
  rw[Bi g]
  simp
 rw[←hWn]at kt
 have q0:(s:Int).tdiv 16=0:=by
  rw[Int.tdiv_eq_ediv_of_nonneg (by omega)];omega
 have q1:(s:Int).tmod 16=s:=by
  rw[Int.tmod_eq_emod_of_nonneg (by omega)];omega
 have s2:s/16=0:=by omega
 have s3:s%16=s:=by omega
 clear v1 v2 v3;refine cO Tryz.func409 rfl ?_;simp -implicitDefEqProofs[jJ,-qA,-qB,-qC,-qD,-qE,-List.map_set,q0,q1,s2,s3,hpos,h0];refine⟨by omega,by omega,?_⟩
 refine AV (fun i:Nat=>⟨[(25,vI .i64 i),(24,vI .i64 a.length),(7,vC (.sl 22 0 a.length)),(6,vI .i64 s),(5,vI .i64 0),(0,vC (.d (Ad a)))],[(22,.row 1 ((W i).map u16) true)]⟩) (fun i=>i≤a.length) (fun i=>a.length - i) 0
  (by simp[AW,lk,St.le,vI,vC,hW0,u16]) (by omega) ?_
 rintro i hi
 have wl:=hWl i hi;by_cases h:i<a.length
 ·have hx:a[i]<65536:=ha _ (AZ h);have hs2:=hst i h;have m0:a[i]%4294967296=a[i]:=AX (by omega)
  by_cases h2:i+1<a.length
  ·have hy:a[i+1]<65536:=ha _ (AZ h2);have ey:a.getD (i+1) 0=a[i+1]:=by rw[AL,AD h2];rfl
   rw[ey]at hs2
   have m1:a[i+1]%4294967296=a[i+1]:=AX (by omega)
   have om:=jke a[i] a[i+1] hx hy;have hsh:=Lf .u32 (a[i]+65536*a[i+1]) s (by show s≤32;omega)
   simp -implicitDefEqProofs[jJ,-qA,-qB,-qC,-qD,-qE,-List.map_set,h,h2,m0,m1,om,hsh,u16];refine⟨by omega,by omega,by omega,by omega,by omega,by omega,i+1,⟨rfl,?_⟩,by omega,by omega⟩
   rw[Ck _ _ _ (by omega),hs2]
  ·have ey:a.getD (i+1) 0=0:=by rw[AL,B9 (by omega)];rfl
   rw[ey,Nat.mul_zero,Nat.add_zero]at hs2
   have hsh:=Lf .u32 a[i] s (by show s≤32;omega)
   simp -implicitDefEqProofs[jJ,-qA,-qB,-qC,-qD,-qE,-List.map_set,h,h2,m0,hsh,u16];refine⟨by omega,by omega,by omega,by omega,i+1,⟨rfl,?_⟩,by omega,by omega⟩
   rw[Ck _ _ _ (by omega),hs2]
 ·have hi2:i=a.length:=by omega
  subst hi2;have et:List.take a.length (List.map u16 (W a.length))=List.map u16 (W a.length):=Ba (by simp[wl])
  have en:D.slice a.length (List.map u16 (W a.length))=Ad (W a.length):=by
   show _=D.slice (W a.length).length _
   rw[wl]
  simp -implicitDefEqProofs[jJ,-qA,-qB,-qC,-qD,-qE,-List.map_set,h,et,en];refine .inl ⟨by omega,_,kt,?_⟩
  simp -implicitDefEqProofs[jJ,-qA,-qB,-qC,-qD,-qE,-List.map_set]
theorem jh2(a:List Nat)(s:Nat)(ha:Ok a)(hl:a.length≤1000)(hs0:0<s)(hs:s<16):
  CallsF Tryz.prog 385 [.c (Ad a),.c (.int .i64 (-(s:Int)))] (.u (.c (.d (Ad (limbs (val a/2^s)))))):=by
 have k1:=B2 a ha (by omega)
 have hle:=Bu a ha;have ho:=Aw (val a);have hv:=Az (val a);generalize limbs (val a)=b at*;rw[←hv];have s0:(-(s:Int))<0:=by omega
 have s1: ¬(-(s:Int))< -1048576:=by omega
 have s2: ¬1048576<(-(s:Int)):=by omega
 by_cases hb:b=[]
 ·subst hb;have e:limbs (val ([]:List Nat)/2^s)=[]:=by simp[val,limbs];rfl
  rw[e]
  refine cO Tryz.func385 rfl ?_;simp -implicitDefEqProofs[jJ,-qA,-qB,-qC,-qD,-qE,-List.map_set];refine Ac k1 ?_
  simp -implicitDefEqProofs[jJ,-qA,-qB,-qC,-qD,-qE,-List.map_set,s0,s1,s2];rfl
 ·have k2:=jkN b s ho (by omega) hb hs
  have hbl:0<b.length:=List.length_pos_iff.2 hb;have n1: -(-(s:Int))=s:=by omega
  refine cO Tryz.func385 rfl ?_;simp -implicitDefEqProofs[jJ,-qA,-qB,-qC,-qD,-qE,-List.map_set];refine Ac k1 ?_
  simp -implicitDefEqProofs[jJ,-qA,-qB,-qC,-qD,-qE,-List.map_set,s0,s1,s2,hb,hbl,n1,hs0];refine⟨by omega,?_⟩
  refine Ac k2 ?_;simp -implicitDefEqProofs[jJ,-qA,-qB,-qC,-qD,-qE,-List.map_set]
end Go.Va
namespace Go.Va
def Fu(q r w2 v2:Nat):Bool:=decide (65536≤q)||decide (r*65536+w2<q*v2)
def D7(v1 w2 v2:Nat):Nat→Nat→Nat→Nat×Nat
 |0,q,r=>(q,r)
 |k+1,q,r=>if r<65536∧Fu q r w2 v2=true then D7 v1 w2 v2 k (q - 1) (r+v1) else (q,r)
section
variable {W V high v1 v2 w2 low vlow p:Nat}
theorem QI(hW:W=high*(65536*p)+w2*p+low)(hV:V=v1*(65536*p)+v2*p+vlow)(hl:low<p)(hw:w2<65536)(h1:0<v1):W/V≤high/v1:=by
 rw[Nat.le_div_iff_mul_le h1]
 have h2:W/V*V≤W:=Nat.div_mul_le_self W V;generalize W/V=Q at*;have h3:Q*(v1*(65536*p))≤Q*V:=Nat.mul_le_mul_left _ (by omega)
 have h4:W<(high+1)*(65536*p):=by
  rw[hW,Nat.add_mul,Nat.one_mul]
  have:w2*p≤65535*p:=BC _ (by omega)
  omega
 have h5:Q*v1*(65536*p)<(high+1)*(65536*p):=by rw[Nat.mul_assoc];omega
 have:=Nat.lt_of_mul_lt_mul_right h5
 omega
theorem jaR(hW:W=high*(65536*p)+w2*p+low)(hV:V=v1*(65536*p)+v2*p+vlow)(hl:low<p)(hQ:W<65536*V)(hV0:0<V){q r:Nat}(hqr:q*v1+r=high)(hg:Fu q r w2 v2=true):W/V<q:=by
 rw[Nat.div_lt_iff_lt_mul hV0]
 unfold Fu at hg;simp only[Bool.or_eq_true,decide_eq_true_eq]at hg;rcases hg with hg|hg
 ·exact Nat.lt_of_lt_of_le hQ (BC _ hg)
 ·have h1:q*V=q*v1*(65536*p)+q*v2*p+q*vlow:=by
   rw[hV,Nat.mul_add,Nat.mul_add,←Nat.mul_assoc q v1,←Nat.mul_assoc q v2]
  have h2:(r*65536+w2+1)*p≤q*v2*p:=BC _ hg;have h3:high*(65536*p)=q*v1*(65536*p)+r*(65536*p):=by rw[←hqr,Nat.add_mul]
  have h4:(r*65536+w2+1)*p=r*(65536*p)+w2*p+p:=by rw[Nat.add_mul,Nat.add_mul,Nat.one_mul,Nat.mul_assoc]
  rw[h1,hW,h3]
  have:=Nat.zero_le (q*vlow)
  omega
theorem jin(hW:W=high*(65536*p)+w2*p+low)(hV:V=v1*(65536*p)+v2*p+vlow)(hl:vlow<p)(hv2:v2<65536)(hV0:0<V)(h1:0<v1){q r:Nat}(hqr:q*v1+r=high)(hq:q≤65537)(hg:65536≤r∨Fu q r w2 v2=false):q≤W/V+1:=by
 rcases Nat.eq_zero_or_pos q with h0|h0
 ·rw[h0];exact Nat.zero_le _
 have key:q*V≤W+V:=by
  have e1:q*V=q*v1*(65536*p)+q*v2*p+q*vlow:=by
   rw[hV,Nat.mul_add,Nat.mul_add,←Nat.mul_assoc q v1,←Nat.mul_assoc q v2]
  have e3:high*(65536*p)=q*v1*(65536*p)+r*(65536*p):=by rw[←hqr,Nat.add_mul]
  have hVp:65536*p≤V:=by
   have:1*(65536*p)≤v1*(65536*p):=BC _ h1
   omega
  rcases hg with hg|hg
  ·have h5:65536*(65536*p)≤r*(65536*p):=BC _ hg;have h6:q*v2*p+q*vlow≤65537*(65536*p):=by
    have a1:v2*p+vlow≤65536*p:=by
     have:v2*p≤65535*p:=BC _ (by omega)
     omega
    have a2:q*(v2*p+vlow)≤65537*(65536*p):=Nat.mul_le_mul hq a1;rw[Nat.mul_add,←Nat.mul_assoc]at a2;exact a2
   omega
  ·unfold Fu at hg;simp only[Bool.or_eq_false_iff,decide_eq_false_iff_not]at hg;have h5:q*v2*p≤(r*65536+w2)*p:=BC _ (by omega)
   have h4:(r*65536+w2)*p=r*(65536*p)+w2*p:=by rw[Nat.add_mul,Nat.mul_assoc]
   have h6:q*vlow≤65536*p:=Nat.mul_le_mul (by omega) (by omega)
   omega
 have:(q - 1)*V≤W:=by
  rw[Nat.sub_mul,Nat.one_mul]
  omega
 have:=(Nat.le_div_iff_mul_le hV0).2 this
 omega
theorem K8(hW:W=high*(65536*p)+w2*p+low)(hV:V=v1*(65536*p)+v2*p+vlow)(hl:low<p)(hvl:vlow<p)(hv2:v2<65536)(hQ:W<65536*V)(hV0:0<V)(h1:0<v1):
  ∀(k q r:Nat),q*v1+r=high→q≤65537→W/V≤q→q<k→W/V≤(D7 v1 w2 v2 k q r).1∧(D7 v1 w2 v2 k q r).1≤W/V+1
 |0,q,r,_,_,_,hk=>by omega
 |k+1,q,r,hqr,hq,hge,hk=>by
  unfold D7;split
  ·rename_i hc
   have hgt:=jaR hW hV hl hQ hV0 hqr hc.2;have h00:=Nat.zero_le (W/V);refine K8 hW hV hl hvl hv2 hQ hV0 h1 k (q - 1) (r+v1) ?_ (by omega) (by omega) (by omega)
   have:q*v1=(q - 1)*v1+v1:=by
    rw[Nat.sub_mul,Nat.one_mul]
    have:1*v1≤q*v1:=BC _ (by omega)
    omega
   omega
  ·rename_i hc
   refine⟨hge,jin hW hV hvl hv2 hV0 h1 hqr hq ?_⟩
   rcases Nat.lt_or_ge r 65536 with hr|hr
   ·right
    rw[Bool.eq_false_iff]
    exact fun h=>hc ⟨hr,h⟩
   ·exact .inl hr
theorem Ni(hW:W=high*(65536*p)+w2*p+low)(hV:V=v1*(65536*p)+v2*p+vlow)(hvl:vlow<p)(hv2:v2<65536)(hQ:W<65536*V)(hn:32768≤v1)(hp:0<p):high/v1≤65537:=by
 have h1:V<(v1+1)*(65536*p):=by
  rw[hV,Nat.add_mul,Nat.one_mul]
  have:v2*p≤65535*p:=BC _ (by omega)
  omega
 have h2:high*(65536*p)<65536*(v1+1)*(65536*p):=by
  have:65536*V≤65536*((v1+1)*(65536*p)):=Nat.mul_le_mul_left _ (by omega)
  rw[Nat.mul_assoc]
  omega
 have h3:=Nat.lt_of_mul_lt_mul_right h2;have h4:high/v1<65538:=by
  rw[Nat.div_lt_iff_lt_mul (by omega)]
  omega
 omega
end
theorem jkb{q:Nat}(hq:q≤65536){w v:List Nat}(hw:Ok w)(hv:Ok v)(hl:w.length=v.length+1):(subL q w v 0 0).2.2=0:=by
 obtain⟨u,x,rfl⟩: ∃u x,w=u++[x]:=by
  rcases List.eq_nil_or_concat w with rfl|⟨l,x,rfl⟩
  ·simp at hl
  ·exact⟨l,x,by simp⟩
 have hlu:u.length=v.length:=by simpa using hl
 have hu:Ok u:=fun y hy=>hw y (by simp[hy])
 have h:=GO hq u v 0 0 hu hv (by omega) (by omega) (by omega)
 rw[MU]
 have e:v.getD u.length 0=0:=by rw[AL,B9 (by omega)];rfl
 rw[e]
 unfold subS;simp only[Nat.mul_zero,Nat.add_zero];have:=h.2.2.1;split<;>(simp only;omega)
def EA(w v:List Nat)(q:Nat):Nat×List Nat:=
 if 0<(subL q w v 0 0).2.1 then (q - 1,(addL (subL q w v 0 0).1 v 0).1) else (q,(subL q w v 0 0).1)
theorem jby{w v:List Nat}(hw:Ok w)(hv:Ok v)(hl:w.length=v.length+1)(hV0:0<val v)(hQ:val w<65536*val v){q:Nat}(h1:val w/val v≤q)(h2:q≤val w/val v+1):
  (EA w v q).1=val w/val v∧val (EA w v q).2=val w%val v∧Ok (EA w v q).2∧(EA w v q).2.length=w.length:=by
 have hq:q≤65536:=by
  have:val w/val v<65536:=by rw[Nat.div_lt_iff_lt_mul hV0];exact hQ
  omega
 have hc:=jkb hq hw hv hl;obtain⟨s1,s2,s3,s4⟩:=GO hq w v 0 0 hw hv (by omega) (by omega) (by omega)
 have sl:=EE q w v 0 0;rw[hc]at s4;have hm:=Nat.div_add_mod (val w) (val v);have hlt:=Nat.mod_lt (val w) hV0;have hvp:=Bz v hv;have hpp:65536^w.length=65536*65536^v.length:=by rw[hl,Nat.pow_succ,Nat.mul_comm]
 have hsp:=Bz _ s1;rw[sl]at hsp;unfold EA;generalize hS:subL q w v 0 0=S at*;obtain⟨w',b,c⟩:=S;simp only at*;obtain⟨a1,a2,a3⟩:=UR w' v 0 s1 hv (by omega) (by omega)
 have al:=G5 w' v 0;have hap:=Bz _ a1;rw[al,sl,hpp]at hap;rw[sl,hpp]at a3;generalize hQ':val w/val v=Q at*;generalize val w%val v=M at*;have hqc:q=Q∨q=Q+1:=by omega
 rw[hpp]at s4 hsp
 generalize 65536^v.length=P at*;rw[Nat.mul_comm (val v) Q]at hm;rcases hqc with rfl|rfl
 ·have hb:b=0:=by
   have:b=0∨b=1:=by omega
   rcases this with h|h
   ·exact h
   ·subst h;simp only[Int.natCast_mul]at s4;omega
  subst hb;rw[if_neg (by omega)]
  refine⟨rfl,?_,s1,by rw[←sl]⟩
  simp only[Int.natCast_mul]at s4;simp at s4;have:((val w':Nat):Int)=M:=by
   have hm2:(val w:Int)=(q:Int)*(val v:Int)+M:=by exact_mod_cast hm.symm
   omega
  exact_mod_cast this
 ·have hqv:(Q+1)*val v=Q*val v+val v:=by rw[Nat.add_mul,Nat.one_mul]
  rw[hqv]at s4
  have hb:b=1:=by
   have:b=0∨b=1:=by omega
   rcases this with h|h
   ·subst h;simp at s4;omega
   ·exact h
  subst hb;rw[if_pos (by omega)]
  refine⟨by simp only;omega,?_,a1,by simp only;rw[al,sl]⟩
  simp only;simp only[Int.natCast_add,Int.natCast_mul]at s4;have ha:(addL w' v 0).2=0∨(addL w' v 0).2=1:=by omega
  have hm2:(val w:Int)=(Q:Int)*(val v:Int)+M:=by exact_mod_cast hm.symm
  have e3:val w'+val v=M+65536*P:=by
   have:((val w'+val v:Nat):Int)=((M+65536*P:Nat):Int):=by
    simp only[Int.natCast_add,Int.natCast_mul];simp at s4;omega
   exact_mod_cast this
  rcases ha with h|h
  ·rw[h]at a3
   omega
  ·rw[h]at a3
   omega
theorem Hm{v:List Nat}{n:Nat}(hl:v.length=n)(hn:2≤n)(hv:Ok v):val v=v.getD (n - 1) 0*(65536*65536^(n - 2))+v.getD (n - 2) 0*65536^(n - 2)+val (v.take (n - 2))∧val (v.take (n - 2))<65536^(n - 2):=by
 have e:v=v.take (n - 2)++[v.getD (n - 2) 0,v.getD (n - 1) 0]:=by
  have h1:v.drop (n - 2)=[v.getD (n - 2) 0,v.getD (n - 1) 0]:=by
   rw[BQ (by omega),BQ (by omega),DU (by omega)]
   rw[AL,AL,AD (by omega),AD (by omega)]
   simp only[Option.getD_some]
   congr 2
   congr 1
   omega
  rw[←h1,List.take_append_drop]
 have hlt:=Bz _ (hv.take (n - 2));rw[A8,Bs (by omega)]at hlt
 refine⟨?_,hlt⟩
 conv=>lhs;rw[e]
 rw[CF,A8,Bs (by omega)]
 simp only[val];generalize 65536^(n - 2)=p;rw[Nat.mul_add,Nat.mul_comm p (v.getD (n - 2) 0),Nat.mul_zero,Nat.add_zero,Nat.mul_left_comm p,Nat.mul_comm p,←Nat.mul_assoc,Nat.mul_comm 65536,Nat.mul_assoc];omega
theorem MD{w:List Nat}{n:Nat}(hl:w.length=n+1)(hn:2≤n)(hw:Ok w):val w=(w.getD n 0*65536+w.getD (n - 1) 0)*(65536*65536^(n - 2))+w.getD (n - 2) 0*65536^(n - 2)+val (w.take (n - 2))∧val (w.take (n - 2))<65536^(n - 2):=by
 have h:=Hm (v:=w) (n:=n+1) hl (by omega) hw
 have h2:=Hm (v:=w.take n) (n:=n) (by rw[A8];omega) hn (hw.take n)
 have e:w=w.take n++[w.getD n 0]:=by
  have h1:w.drop n=[w.getD n 0]:=by
   rw[BQ (by omega),DU (by omega)]
   rw[AL,AD (by omega)]
   rfl
  rw[←h1,List.take_append_drop]
 have g: ∀i,i<n→(w.take n).getD i 0=w.getD i 0:=fun i hi=>by
  rw[AL,AL,List.getElem?_take,if_pos hi]
 rw[g _ (by omega),g _ (by omega),List.take_take,Bs (by omega)]at h2
 refine⟨?_,h2.2⟩
 conv=>lhs;rw[e]
 rw[CF,A8,Bs (by omega),h2.1]
 simp only[val];have hp:65536^n=65536*(65536*65536^(n - 2)):=by
  have: ∀k,65536^(k+2)=65536*(65536*65536^k):=fun k=>by
   rw[Nat.pow_succ,Nat.pow_succ]
   generalize 65536^k=z;omega
  have h3:=this (n - 2)
  rwa [show n - 2+2=n by omega]at h3
 rw[hp,Nat.add_mul (w.getD n 0*65536),Nat.mul_assoc (w.getD n 0) 65536,Nat.mul_comm (w.getD n 0)]
 simp only[Nat.mul_zero,Nat.add_zero];omega
def CT(w v:List Nat):Nat×List Nat:=
 let n:=v.length
 let high:=w.getD n 0*65536+w.getD (n - 1) 0
 EA w v (D7 (v.getD (n - 1) 0) (w.getD (n - 2) 0) (v.getD (n - 2) 0) 65538 (high/v.getD (n - 1) 0) (high%v.getD (n - 1) 0)).1
theorem jii{w v:List Nat}(hw:Ok w)(hv:Ok v)(hl:w.length=v.length+1)(hn:2≤v.length)(h1:32768≤v.getD (v.length - 1) 0)(hQ:val w<65536*val v):
  (CT w v).1=val w/val v∧val (CT w v).2=val w%val v∧Ok (CT w v).2∧(CT w v).2.length=w.length:=by
 obtain⟨eV,lV⟩:=Hm rfl hn hv
 obtain⟨eW,lW⟩:=MD hl hn hw
 have hp:0<65536^(v.length - 2):=Nat.pow_pos (by omega)
 have hV0:0<val v:=by
  have:1*(65536*65536^(v.length - 2))≤v.getD (v.length - 1) 0*(65536*65536^(v.length - 2)):=BC _ (by omega)
  omega
 have hd: ∀(l:List Nat) i,Ok l→l.getD i 0<65536:=fun l i hl=>by
  rcases Nat.lt_or_ge i l.length with hi|hi
  ·rw[AL,AD hi];exact hl _ (AZ hi)
  ·rw[AL,B9 hi];simp
 have hw2:=hd w (v.length - 2) hw;have hv2:=hd v (v.length - 2) hv;have g1:=QI eW eV lW hw2 (by omega)
 have g2:=Ni eW eV lV hv2 hQ h1 hp;have hqr:(w.getD v.length 0*65536+w.getD (v.length - 1) 0)/v.getD (v.length - 1) 0*v.getD (v.length - 1) 0+(w.getD v.length 0*65536+w.getD (v.length - 1) 0)%v.getD (v.length - 1) 0=w.getD v.length 0*65536+w.getD (v.length - 1) 0:=by
  rw[Nat.mul_comm]
  exact Nat.div_add_mod _ _
 have a:=K8 eW eV lW lV hv2 hQ hV0 (by omega) 65538 _ _ hqr g2 g1 (by omega)
 exact jby hw hv hl hV0 hQ a.1 a.2
end Go.Va
