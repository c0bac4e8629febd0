/- a part of the proof -/
import Derived.Test.YtlgoebgnbkhmmaaGreatDoorZam
set_option linter.all false
set_option maxHeartbeats 4000000
set_option maxRecDepth 10000
namespace Go.Va
open Go.Proofs
theorem IA(n:Nat)(hn:n<18446744073709551616):CallsF Tryz.prog 371 [.c (.int .u64 n)] (.u (.c (.d (Ad (limbs n))))):=by
 refine cO Tryz.func371 rfl ?_;simp;refine CE [(3,12)] (fun p:List Nat×Nat=>⟨[(0,vI .u64 p.2),(3,vC (.sl 3 0 p.1.length))],[(3,.row 1 (p.1.map u16) true)]⟩)
  (fun p=>limbs n=p.1++limbs p.2∧p.2<18446744073709551616∧p.1.length+(limbs p.2).length≤4) (fun p=>p.2) ([],n)
  (by simp) ⟨rfl,hn,by simpa using (GE n).2 hn⟩ ?_
 rintro⟨l,m⟩ ⟨h1,h2,h3⟩
 by_cases hm:m=0
 ·subst hm;simp;rw[h1];simp[Cm]
 ·rw[EF hm]at h1 h3
  simp only[List.length_cons]at h1 h2 h3;simp[hm];refine fun _=>⟨by omega,l++[m%65536],m/65536,⟨⟨Lf .u64 m 16 (by decide),by simp⟩,by simp[u16]⟩,⟨by rw[h1];simp,by omega,by simp;omega⟩,by omega⟩
theorem C6(n:Nat)(hn:n<18446744073709551616):CallsF Tryz.prog 122 [.c (.int .u64 n)] (.u (.c (.d (Ad (limbs n))))):=by
 refine cO Tryz.func122 rfl ?_;simp;refine CE [(3,11)] (fun p:List Nat×Nat=>⟨[(0,vI .u64 p.2),(3,vC (.sl 3 0 p.1.length))],[(3,.row 1 (p.1.map u16) true)]⟩)
  (fun p=>limbs n=p.1++limbs p.2∧p.2<18446744073709551616∧p.1.length+(limbs p.2).length≤4) (fun p=>p.2) ([],n)
  (by simp) ⟨rfl,hn,by simpa using (GE n).2 hn⟩ ?_
 rintro⟨l,m⟩ ⟨h1,h2,h3⟩
 by_cases hm:m=0
 ·subst hm;simp;rw[h1];simp[Cm]
 ·rw[EF hm]at h1 h3
  simp only[List.length_cons]at h1 h2 h3;have e1:(m:Int).tmod 65536=((m%65536:Nat):Int):=by rw[Int.tmod_eq_emod_of_nonneg (by omega)];omega
  simp[hm,e1]
  refine fun _=>⟨by omega,l++[m%65536],m/65536,⟨⟨by omega,by simp⟩,by simp[u16];rw[show(m:Int)%65536=((m%65536:Nat):Int) by omega,Zs];omega⟩,⟨by rw[h1];simp,by omega,by simp;omega⟩,by omega⟩
theorem Tc(a:Nat):cmp3 a a=0:=by simp[cmp3]
theorem IZ{a b:Nat}(h:a<b):cmp3 a b= -1:=by simp[cmp3,h]
theorem NM{a b:Nat}(h:b<a):cmp3 a b=1:=by simp[cmp3,h];omega
theorem Jr(a b:List Nat)(ha:Ok a)(hl:a.length≤1099511627776)(hb:Ok b)(hm:b.length≤1099511627776):CallsF Tryz.prog 311 [.c (Ad a),.c (Ad b)] (.u (.c (.d (.int .i64 (cmp3 (val a) (val b)))))):=by
 refine cO Tryz.func311 rfl ?_;simp;refine .inl ⟨_,B2 a ha hl,?_⟩
 simp
 refine .inl ⟨_,B2 b hb hm,?_⟩;have hla:=Bu a ha;have hlb:=Bu b hb;have oa:=Aw (val a);have ob:=Aw (val b);have va:=Az (val a);have vb:=Az (val b);have sa:=RV (a:=val a) (b:=val b);have sb:=RV (a:=val b) (b:=val a);generalize limbs (val a)=x at*;generalize limbs (val b)=y at*;simp;refine⟨fun hne=>⟨fun h=> ?_,fun h=> ?_⟩,fun he=> ?_⟩
 ·rw[IZ (sa h)]
 ·rw[NM (sb (by omega))]
 refine⟨by omega,?_⟩
 refine AV (fun n:Nat=>⟨[(0,vC (.d (Ad x))),(1,vC (.d (Ad y))),(5,vI .i64 ((n:Int) - 1))],[]⟩) (fun n=>n≤x.length∧ ∀j,n≤j→x.getD j 0=y.getD j 0) (fun n=>n) x.length
  (by simp) ⟨AO _,fun j hj=> ?_⟩ ?_
 ·rw[AL,AL,B9 hj,B9 (by omega)]
 rintro n ⟨hn,ht⟩
 cases n with
 |zero=>
  simp
  rw[←va,←vb,Hz x y fun j=>ht j (by omega),Tc]
 |succ n=>
  obtain⟨p,hp⟩:=EI (a:=x) (n:=n) (by omega)
  obtain⟨q,hq⟩:=EI (a:=y) (n:=n) (by omega)
  simp
  refine AA (Ah [0,0,3,7,0,0,48,112,255]) [.any [] [] (Aq [[0],[5],[27,28],[29],[1],[5],[31,32],[33]]),.one] (by rfl) ?_
  simp[hp,hq,u16]
  have gp:x.getD n 0=p:=by rw[AL,hp];rfl
  have gq:y.getD n 0=q:=by rw[AL,hq];rfl
  refine⟨by omega,by omega,fun h=> ?_,fun h=> ?_⟩
  ·rw[←va,←vb,IZ (H8 n x y oa ob (fun j hj=>ht j hj) (by rw[gp,gq];exact h))]
  refine AA (Ah [0,0,3,7,0,0,48,112,255]) [.any [] [] (Aq [[0],[5],[36,37],[38],[1],[5],[40,41],[42]]),.one] (by rfl) ?_
  simp[hp,hq,u16]
  refine⟨by omega,by omega,fun h=> ?_,fun h=>⟨by omega,n,rfl,⟨by omega,?_⟩,by omega⟩⟩
  ·rw[←va,←vb,NM (H8 n y x ob oa (fun j hj=>(ht j hj).symm) (by rw[gp,gq];exact h))]
  ·intro j hj;rw[←AL,←AL];rcases Nat.eq_or_lt_of_le hj with h1|h1
   ·rw[←h1,gp,gq];omega
   ·exact ht j h1
theorem Iq(a b:List Nat)(ha:Ok a)(hl:a.length≤140737488355328)(hb:Ok b)(hm:b.length≤140737488355328):CallsF Tryz.prog 283 [.c (Ad a),.c (Ad b)] (.u (.c (.d (.int .i64 (cmp3 (val a) (val b)))))):=by
 refine cO Tryz.func283 rfl ?_;simp;refine⟨by split<;>omega,?_⟩
 refine AV (fun n:Nat=>⟨[(0,vC (.d (Ad a))),(1,vC (.d (Ad b))),(5,vI .i64 ((n:Int) - 1))],[]⟩) (fun n=>n≤140737488355328∧ ∀j,n≤j→a.getD j 0=b.getD j 0) (fun n=>n) (max a.length b.length)
  (by simp;split<;>omega) ⟨by omega,fun j hj=> ?_⟩ ?_
 ·rw[AL,AL,B9 (by omega),B9 (by omega)]
 rintro n ⟨hn,ht⟩
 cases n with
 |zero=>
  simp
  rw[Hz a b fun j=>ht j (by omega),Tc]
 |succ n=>
  simp
  refine .inl ⟨_,En a ha n (by omega),?_⟩
  simp
  refine .inl ⟨_,En b hb n (by omega),?_⟩
  simp
  refine⟨fun h=> ?_,fun h=> .inl ⟨_,En a ha n (by omega),?_⟩⟩
  ·rw[IZ (H8 n a b ha hb (fun j hj=>ht j hj) (by simpa using h))]
  simp
  refine .inl ⟨_,En b hb n (by omega),?_⟩
  simp
  refine⟨fun h2=> ?_,fun h2=>⟨by omega,n,rfl,⟨by omega,fun j hj=> ?_⟩,by omega⟩⟩
  ·rw[NM (H8 n b a hb ha (fun j hj=>(ht j hj).symm) (by simpa using h2))]
  ·rcases Nat.eq_or_lt_of_le hj with h1|h1
   ·rw[←h1];omega
   ·simpa using ht j h1
theorem Oo(i:Nat):65536^i=2^(16*i):=by
 rw[Nat.pow_mul]
theorem Wr(m x i:Nat)(hm:m<65536^i)(hx:x<65536)(hi:i<4):Da .u64 (m:Int) (CW .u64 ((x%18446744073709551616:Nat):Int) ((16*i:Nat):Int))=((m+65536^i*x:Nat):Int):=by
 have hp:65536^i*65536≤18446744073709551616:=by
  rw[←LA,←Nat.pow_succ]
  exact Nat.pow_le_pow_right (by omega) (by omega)
 have h1:65536^i*x+65536^i≤18446744073709551616:=by
  have:65536^i*(x+1)≤65536^i*65536:=Nat.mul_le_mul_left _ (by omega)
  rw[Nat.mul_add,Nat.mul_one]at this
  omega
 rw[AX (a:=x) (by omega),QL _ _ (by omega),←Oo,Nat.mul_comm x,AX (by omega),QU _ _ (by omega) (by omega)]
 rw[Oo]at hm ⊢
 rw[IM _ _ _ hm]
def EL(n:Nat):Bool:=decide (n<18446744073709551616)
def FV(n:Nat):Nat:=if EL n then n else 0
theorem fits64_iff{n:Nat}:EL n=true↔n<18446744073709551616:=by simp[EL]
theorem S4(a:List Nat)(ha:Ok a)(hl:a.length≤1099511627776):CallsF Tryz.prog 370 [.c (Ad a)]
  (.tup [.c (.d (.int .u64 (FV (val a)))),.c (.d (.bool (EL (val a))))]):=by
 refine cO Tryz.func370 rfl ?_;simp;refine .inl ⟨_,B2 a ha hl,?_⟩
 have hla:=Bu a ha;have oa:=Aw (val a);have va:=Az (val a);have h4:(limbs (val a)).length≤4↔EL (val a)=true:=by rw[fits64_iff];exact GE (val a)
 generalize limbs (val a)=x at*;simp;refine⟨fun h=> ?_,fun h=> ?_⟩
 ·have:EL (val a)=false:=by cases hf:EL (val a)with|false=>rfl|true=>have:=h4.2 hf;omega
  rw[this];simp[FV,this]
 have hv:=h4.1 (by omega)
 refine AV (fun n:Nat=>⟨[(14,vI .i64 n),(13,vI .i64 x.length),(12,vC (.d (Ad x))),(4,vI .u64 (val (x.take n):Nat))],[]⟩) (fun n=>n≤x.length) (fun n=>x.length - n) 0
  (by simp[val]) (by omega) ?_
 intro n hn;by_cases hlt:n<x.length
 ·obtain⟨p,hp⟩:=EI hlt
  have hp':=oa.get hp;have e:x[n]? =some x[n]:=AD hlt;rw[hp]at e;cases e;have hn4:n<4:=by omega
  have hb:=Bz (x.take n) (oa.take n);rw[A8,Bs (by omega)]at hb
  simp[hlt,u16]
  refine⟨by omega,by omega,by omega,n+1,⟨by omega,?_⟩,by omega,by omega⟩
  rw[Dp hlt,AL,hp]
  exact Wr _ _ n hb hp' hn4
 ·simp[hlt]
  rw[Ba (by omega),va]
  simp[FV,hv]
theorem OX(a:List Nat)(ha:Ok a)(hl:a.length≤4):CallsF Tryz.prog 284 [.c (Ad a)] (.u (.c (.d (.int .u64 (val a))))):=by
 refine cO Tryz.func284 rfl ?_;simp;refine⟨by omega,?_⟩
 refine AV (fun n:Nat=>⟨[(0,vC (.d (Ad a))),(3,vI .u64 (val (a.drop n):Nat)),(4,vI .i64 ((n:Int) - 1))],[]⟩) (fun n=>n≤a.length) (fun n=>n) a.length
  (by simp[val]) (AO _) ?_
 intro n hn;cases n with
 |zero=>simp
 |succ n=>
  have hlt:n<a.length:=by omega
  have hp:=ha.get (AD hlt);simp[hlt,u16];refine⟨by omega,n,⟨?_,rfl⟩,by omega,by omega⟩
  have hb:=Bz (a.drop n) (ha.drop n);have h4:65536^(a.drop n).length≤65536^4:=Nat.pow_le_pow_right (by omega) (by simp;omega)
  rw[LA]at h4
  rw[Wf hlt,AL,AD hlt]at hb ⊢
  simp only[Option.getD_some]at hb ⊢;omega
def Nr(a:List Nat):Bool:=decide (a.getLast? ≠some 0)
theorem Zb(a:List Nat)(hl:a.length≤140737488355328):CallsF Tryz.prog 288 [.c (Ad a)] (.u (.c (.d (.bool (Nr a))))):=by
 unfold Nr;refine cO Tryz.func288 rfl ?_;rcases List.eq_nil_or_concat a with rfl|⟨l,x,rfl⟩
 ·simp
 ·simp at hl;simp[u16];omega
theorem jhw(a b:List Nat)(hl:a.length≤140737488355328):CallsF Tryz.prog 280 [.c (Ad a),.c (Ad b)] (.u (.c (.d (.bool (decide (a=b)))))):=by
 refine cO Tryz.func280 rfl ?_;simp;refine⟨fun h h1=>h (by rw[h1]),fun he=> ?_⟩
 refine AV (fun n:Nat=>⟨[(0,vC (.d (Ad a))),(1,vC (.d (Ad b))),(5,vI .i64 n)],[]⟩) (fun n=>n≤a.length∧a.take n=b.take n) (fun n=>a.length - n) 0
  (by simp) ⟨Nat.zero_le _,rfl⟩ ?_
 rintro n ⟨hn,ht⟩
 by_cases hlt:n<a.length
 ·have hlt':n<b.length:=by omega
  simp[hlt]
  refine AA (Ah [0,0,3,7,0,0,48,112,255]) [.any [] [] (Aq [[0],[5],[17,18],[19],[1],[5],[21,22],[23]]),.one] (by rfl) ?_
  simp[hlt,hlt',u16]
  refine⟨fun h1 h2=>h1 (by subst h2;rfl),fun h1=>⟨by omega,n+1,by omega,⟨by omega,?_⟩,by omega⟩⟩
  rw[List.take_add_one,List.take_add_one,ht,AD hlt,AD hlt']
  have:a[n]=b[n]:=by omega
  rw[this]
 ·simp[hlt]
  rwa [Ba (by omega),Ba (by omega)]at ht
theorem EK(a:List Nat):CallsF Tryz.prog 243 [.c (Ad a)] (.u (.c (.d (.bool (decide (a=[1])))))):=by
 refine cO Tryz.func243 rfl ?_;cases a with
 |nil=>simp
 |cons x a=>
  simp[u16]
  have e1:decide ((a.length:Int)+1=1)=decide (a=[]):=by
   rw[decide_eq_decide,←jzv];omega
  have e2:decide ((x:Int)=1)=decide (x=1):=by rw[decide_eq_decide];omega
  rw[e1,e2,Bool.and_comm]
theorem Ir:CallsF Tryz.prog 309 [] (.u (.c (.d (Ad [1])))):=by
 refine cO Tryz.func309 rfl ?_;simp;rfl
end Go.Va
namespace Go.Va
theorem Ub{p c o x y v v' V:Nat}(h:v+p*c=V)(hs:v'+p*o=v+p*((c+(o+x*y))%65536)):
  v'+p*65536*((c+(o+x*y))/65536)=V+p*(x*y):=by
 grind[Nat.div_add_mod,Nat.mul_assoc,Nat.mul_add]
theorem jih{p c o x y v v' V:Nat}(h:v+p*c=V)(hs:v'+p*o=v+p*((o+x*y+c)%65536)):
  v'+p*65536*((o+x*y+c)/65536)=V+p*(x*y):=by
 grind[Nat.add_comm,Ub]
theorem TU{i k c o x y v v' V:Nat}{b:List Nat}(h:v+65536^(i+k)*c=V+65536^i*(x*val (b.take k)))(hs:v'+65536^(i+k)*o=v+65536^(i+k)*((o+x*y+c)%65536))
  (hT:val (b.take (k+1))=val (b.take k)+65536^k*y):v'+65536^(i+(k+1))*((o+x*y+c)/65536)=V+65536^i*(x*val (b.take (k+1))):=by
 have:=jih h hs
 grind
end Go.Va
namespace Go.Va
open Int renaming natCast_add → qA, natCast_mul → qB, natCast_emod → qC, natCast_ediv → qD, natCast_pow → qE
open List renaming reduceReplicate → qF
open Go.Proofs
def Ru:List (List Nat):=(Ah [0,0,0,6,15,31,63,0,0,384,896,1920,0,0,12288,28672,65408,131071,0,524287,1048575])
@[simp]def RE:List Seg:=[.any [] [] (Aq [[5],[6],[8],[34,35],[33,36],[37],[38],[0],[6],[40,41],[42],[43],[1],[8],[45,46],[47],[44,48],[39,49],[7]]),.one,.one]
theorem LR(a b:List Nat)(ha:Ok a)(hb:Ok b)(hlm:a.length+b.length+1≤70368744177664):CallsF Tryz.prog 277 [.c (Ad a),.c (Ad b)] (.u (.c (.d (Ad (limbs (val a*val b)))))):=by
 refine cO Tryz.func277 rfl ?_;simp -implicitDefEqProofs[jJ,-qA,-qB,-qC,-qD,-qE,-List.map_set];refine⟨by omega,by omega,by omega,?_⟩
 refine AV (fun p:Nat×List Nat=>⟨[(0,vC (.d (Ad a))),(1,vC (.d (Ad b))),(6,vI .i64 p.1),(5,vC (.sl 16 0 p.2.length))],[(16,.row 1 (p.2.map u16) true)]⟩)
  (fun p=>p.1≤a.length∧Ok p.2∧p.2.length=a.length+b.length+1∧val p.2=val (a.take p.1)*val b∧ ∀j,p.1+b.length≤j→p.2.getD j 0=0) (fun p=>a.length - p.1) (0,List.replicate (a.length+b.length+1) 0)
  (by simp[IW,List.replicate_succ]) ⟨Nat.zero_le _,fun z hz=>by rw[List.eq_of_mem_replicate hz];omega,by simp,by simp[Oi,val],fun j _=>by simp only[AL,List.getElem?_replicate];split<;>rfl⟩ ?_
 rintro⟨i,o0⟩ ⟨h1,h2,h3,h4,h5⟩
 by_cases hi:i<a.length
 ·have hxi:=ha.get (AD hi);simp only at h1 h2 h3 h4 h5;simp -implicitDefEqProofs[jJ,-qA,-qB,-qC,-qD,-qE,-List.map_set,hi,u16];refine AV (fun q:Nat×Nat×List Nat=>⟨[(0,vC (.d (Ad a))),(1,vC (.d (Ad b))),(6,vI .i64 i),(5,vC (.sl 16 0 q.2.2.length)),(7,vI .u64 q.2.1),(8,vI .i64 q.1)],[(16,.row 1 (q.2.2.map u16) true)]⟩)
   (fun q=>q.2.1<65536∧Ok q.2.2∧q.2.2.length=a.length+b.length+1∧val q.2.2+65536^(i+q.1)*q.2.1=val o0+65536^i*(a[i]*val (b.take q.1))∧
    ((q.1≤b.length∧ ∀j,i+b.length≤j→q.2.2.getD j 0=0)∨(q.1=b.length+1∧q.2.1=0∧ ∀j,i+1+b.length≤j→q.2.2.getD j 0=0)))
   (fun q=>b.length+1 - q.1) (0,0,o0) (by simp) ⟨by simp,h2,h3,by simp[val],.inl ⟨Nat.zero_le _,h5⟩⟩ ?_
  rintro⟨k,c,o⟩ ⟨g2,g3,g4,g5,g6⟩
  simp only at g2 g3 g4 g5 g6;by_cases hk:k<b.length
  ·have hyk:=hb.get (AD hk);have hik:i+k<o.length:=by omega
   have hok:=g3.get (AD hik);simp -implicitDefEqProofs[jJ,-qA,-qB,-qC,-qD,-qE,-List.map_set,hk,u16];refine AA Ru RE (by rfl) ?_
   simp -implicitDefEqProofs[jJ,-qA,-qB,-qC,-qD,-qE,-List.map_set,hi,hik,u16];refine⟨by omega,_,En b hb k (by omega),?_⟩
   have hbk:b.getD k 0=b[k]:=by rw[AL,AD hk];rfl
   rw[hbk]
   simp -implicitDefEqProofs[jJ,-qA,-qB,-qC,-qD,-qE,-List.map_set,hik,u16];have hxy:a[i]*b[k]≤65535*65535:=Nat.mul_le_mul (by omega) (by omega)
   have hT:o[i+k]+a[i]*b[k]+c<4294967296:=by omega
   have hst:=IL (a:=o) (i:=i+k) (x:=(o[i+k]+a[i]*b[k]+c)%65536) hik;rw[AL,AD hik,Option.getD_some]at hst;have hgo:=TU g5 hst (by rw[Dp hk,hbk])
   have hz: ∀j,i+b.length≤j→o.getD j 0=0:=by
    rcases g6 with⟨_,h⟩|⟨h,_⟩
    ·exact h
    ·omega
   refine⟨by omega,by omega,by omega,k+1,(o[i+k]+a[i]*b[k]+c)/65536,o.set (i+k) ((o[i+k]+a[i]*b[k]+c)%65536),⟨⟨by simp,by omega,rfl⟩,rfl⟩,
    ⟨by omega,g3.set _ (by omega),by simpa using g4,hgo,.inl ⟨hk,fun j hj=> ?_⟩⟩,by omega⟩
   rw[List.getElem?_set,if_neg (by omega),←AL]
   exact hz j hj
  ·by_cases hc:0<c
   ·obtain⟨hk1,hz⟩:k≤b.length∧ ∀j,i+b.length≤j→o.getD j 0=0:=by
     rcases g6 with h|⟨_,h,_⟩
     ·exact h
     ·omega
    obtain rfl:k=b.length:=by omega
    have hik:i+b.length<o.length:=by omega
    simp -implicitDefEqProofs[jJ,-qA,-qB,-qC,-qD,-qE,-List.map_set,hc,u16];refine AA Ru RE (by rfl) ?_
    simp -implicitDefEqProofs[jJ,-qA,-qB,-qC,-qD,-qE,-List.map_set,hi,hik,u16];refine⟨by omega,_,En b hb b.length (by omega),?_⟩
    have hbk:b.getD b.length 0=0:=by simp[AL]
    have hok:o[i+b.length]=0:=by
     have:=hz (i+b.length) (AO _)
     rwa [AL,AD hik,Option.getD_some]at this
    generalize b.getD b.length 0=z at*;simp -implicitDefEqProofs[jJ,-qA,-qB,-qC,-qD,-qE,-List.map_set,hik,u16];subst hbk;have hst:=IL (a:=o) (i:=i+b.length) (x:=(o[i+b.length]+a[i]*0+c)%65536) hik;rw[AL,AD hik,Option.getD_some]at hst;have hgo:=TU g5 hst (by rw[Ba (by omega),BM,Nat.mul_zero,Nat.add_zero])
    rw[hok,Nat.mul_zero,Nat.add_zero,Nat.zero_add]at*
    have e1:c/65536=0:=by omega
    rw[e1]at hgo
    refine⟨by omega,by omega,by omega,b.length+1,0,o.set (i+b.length) (c%65536),⟨⟨by simp,by omega,rfl⟩,by simp⟩,
     ⟨by omega,g3.set _ (by omega),by simpa using g4,hgo,.inr ⟨rfl,rfl,fun j hj=> ?_⟩⟩,by omega⟩
    rw[List.getElem?_set,if_neg (by omega),←AL]
    exact hz j (by omega)
   ·obtain rfl:c=0:=by omega
    simp -implicitDefEqProofs[jJ,-qA,-qB,-qC,-qD,-qE,-List.map_set,hk,u16];have hv:val o=val (a.take (i+1))*val b:=by
     have h6:b.length≤k:=by omega
     rw[Ba h6]at g5
     rw[Dp hi,AL,AD hi,Option.getD_some,Nat.add_mul,Nat.mul_assoc,←h4,←g5]
     omega
    refine⟨by omega,i+1,o,⟨⟨rfl,rfl⟩,rfl⟩,⟨hi,g3,g4,hv,fun j hj=> ?_⟩,by omega⟩
    rw[←AL]
    rcases g6 with⟨_,h⟩|⟨_,_,h⟩
    ·exact h j (by omega)
    ·exact h j hj
 ·simp only at h1 h2 h3 h4;simp -implicitDefEqProofs[jJ,-qA,-qB,-qC,-qD,-qE,-List.map_set,hi];refine .inl ⟨_,CM o0 h2 (by omega),?_⟩
  simp -implicitDefEqProofs[jJ,-qA,-qB,-qC,-qD,-qE,-List.map_set];rw[h4,Ba (by omega)]
theorem jlz(a b:List Nat)(ha:Ok a)(hl:a.length≤274877906944)(hb:Ok b)(hm:b.length≤274877906944):CallsF Tryz.prog 277 [.c (Ad a),.c (Ad b)] (.u (.c (.d (Ad (limbs (val a*val b)))))):=LR a b ha hb (by omega)
def sg(neg:Bool)(n:Nat):Bool:=neg&&decide (0<n)
def AU(neg:Bool)(n:Nat):List RC:=[.d (.bool (sg neg n)),.d (Ad (limbs n))]
def LG(neg:Bool)(n:Nat):Int:=if neg then -(n:Int) else n
def Bg(neg:Bool)(n:Nat):Int:=if n=0 then 0 else if neg then -1 else 1
theorem limbs_pos_len{n:Nat}:0<(limbs n).length↔0<n:=by
 rw[List.length_pos_iff,ne_eq,limbs_nil];omega
theorem E6(neg:Bool)(a:List Nat)(ha:Ok a)(hl:a.length≤1099511627776):CallsF Tryz.prog 120 [.c (.bool neg),.c (Ad a)] (.u (.agg (AU neg (val a)))):=by
 refine cO Tryz.func120 rfl ?_;simp -implicitDefEqProofs[jJ,-qA,-qB,-qC,-qD,-qE];refine .inl ⟨_,CM a ha (by omega),?_⟩
 have hp:= @limbs_pos_len (val a)
 cases neg<;>simp -implicitDefEqProofs[jJ,-qA,-qB,-qC,-qD,-qE,AU,sg,hp]
theorem XM(neg:Bool)(a:List Nat)(ha:Ok a)(hl:a.length≤1099511627776):CallsF Tryz.prog 383 [.c (.bool neg),.c (Ad a)] (.u (.agg (AU neg (val a)))):=by
 refine cO Tryz.func383 rfl ?_;simp -implicitDefEqProofs[jJ,-qA,-qB,-qC,-qD,-qE];refine .inl ⟨_,EO a ha hl,?_⟩
 have hp:= @limbs_pos_len (val a)
 cases neg<;>simp -implicitDefEqProofs[jJ,-qA,-qB,-qC,-qD,-qE,AU,sg,hp]
theorem jev(neg:Bool)(n:Nat):CallsF Tryz.prog 312 [.c (.bool neg),.c (Ad (limbs n))] (.u (.agg (AU neg n))):=by
 refine cO Tryz.func312 rfl ?_;have hp:= @limbs_pos_len n;cases neg<;>simp -implicitDefEqProofs[jJ,-qA,-qB,-qC,-qD,-qE,AU,sg,hp]
theorem IS(neg:Bool)(a:List Nat)(ha:Ok a)(hl:a.length≤1099511627776):CallsF Tryz.prog 192 [.agg [.bool neg,Ad a]] (.u (.agg (AU neg (val a)))):=by
 refine cO Tryz.func192 rfl ?_;simp -implicitDefEqProofs[jJ,-qA,-qB,-qC,-qD,-qE];refine .inl ⟨_,E6 neg a ha hl,?_⟩
 simp -implicitDefEqProofs[jJ,-qA,-qB,-qC,-qD,-qE,AU]
theorem QB(neg:Bool)(a:List Nat)(ha:Ok a)(hl:a.length≤1099511627776):CallsF Tryz.prog 341 [.agg [.bool neg,Ad a]] (.u (.agg (AU neg (val a)))):=by
 refine cO Tryz.func341 rfl ?_;simp -implicitDefEqProofs[jJ,-qA,-qB,-qC,-qD,-qE];refine .inl ⟨_,XM neg a ha hl,?_⟩
 simp -implicitDefEqProofs[jJ,-qA,-qB,-qC,-qD,-qE,AU]
theorem Z5(na nb:Bool)(a b:List Nat)(ha:Ok a)(hl:a.length≤274877906944)(hb:Ok b)(hm:b.length≤274877906944)(hv:(limbs (val a*val b)).length≤1099511627776):
  CallsF Tryz.prog 190 [.agg [.bool na,Ad a],.agg [.bool nb,Ad b]] (.u (.agg (AU (!decide (na=nb)) (val a*val b)))):=by
 refine cO Tryz.func190 rfl ?_;simp -implicitDefEqProofs[jJ,-qA,-qB,-qC,-qD,-qE];refine AA (Ah [0,1,0,4,15,0,32,0,128,480,1023,2047]) [.any [] [] (Aq [[2],[5],[3],[7],[6,8],[2],[10],[3],[12],[11,13]]),.one,.one] (by rfl) ?_
 simp -implicitDefEqProofs[jJ,-qA,-qB,-qC,-qD,-qE];refine⟨_,jlz a b ha hl hb hm,?_⟩;simp -implicitDefEqProofs[jJ,-qA,-qB,-qC,-qD,-qE];have h:=E6 (!decide (na=nb)) (limbs (val a*val b)) (Aw _) hv;rw[Az]at h;refine .inl ⟨_,h,?_⟩;simp -implicitDefEqProofs[jJ,-qA,-qB,-qC,-qD,-qE,AU]
theorem joH(n:Nat)(hn:n<9223372036854775808):CallsF Tryz.prog 66 [.c (.int .i64 n)] (.u (.agg (AU false n))):=by
 refine cO Tryz.func66 rfl ?_;simp -implicitDefEqProofs[jJ,-qA,-qB,-qC,-qD,-qE];rw[AX (by omega)]
 refine .inl ⟨_,C6 n (by omega),?_⟩
 simp -implicitDefEqProofs[jJ,-qA,-qB,-qC,-qD,-qE];have h:=E6 false (limbs n) (Aw _) (by have:=(GE n).2 (by omega);omega)
 rw[Az]at h
 refine .inl ⟨_,h,?_⟩;simp -implicitDefEqProofs[jJ,-qA,-qB,-qC,-qD,-qE,AU]
theorem jjE(neg:Bool)(a:List Nat)(hl:a.length≤140737488355328):CallsF Tryz.prog 287 [.agg [.bool neg,Ad a]] (.u (.c (.d (.bool (Nr a&& !(neg&&decide (a=[]))))))):=by
 refine cO Tryz.func287 rfl ?_;simp -implicitDefEqProofs[jJ,-qA,-qB,-qC,-qD,-qE];refine .inl ⟨_,Zb a (by omega),?_⟩
 generalize Nr a=d;cases d<;>cases neg<;>simp -implicitDefEqProofs[jJ,-qA,-qB,-qC,-qD,-qE]
theorem jbv(neg:Bool)(a:List Nat)(hl:a.length≤1099511627776):CallsF Tryz.prog 305 [.agg [.bool neg,Ad a]] (.u (.c (.d (.bool (Nr a&& !(neg&&decide (a=[]))))))):=by
 refine cO Tryz.func305 rfl ?_;rcases Nat.eq_zero_or_pos a.length with h0|h0
 ·have:a=[]:=jzv.1 h0
  subst this;cases neg<;>simp -implicitDefEqProofs[jJ,-qA,-qB,-qC,-qD,-qE,Nr]
 ·obtain⟨n,hn⟩: ∃n,a.length=n+1:=⟨a.length - 1,by omega⟩
  have hne:a≠[]:=fun h=>by rw[h]at hn;simp at hn
  obtain⟨x,hx⟩:=EI (a:=a) (n:=n) (by omega)
  have hg:a.getLast? =some x:=by rw[List.getLast?_eq_getElem?,hn];simpa using hx
  cases neg<;>simp -implicitDefEqProofs[jJ,-qA,-qB,-qC,-qD,-qE,u16,hn,hx,hg,hne,Nr]
  all_goals
   have e:a[n]'(by omega)=x:=by
    have:=AD (l:=a) (i:=n) (by omega)
    rw[hx]at this
    exact(Bi this).symm
   rw[e]
   exact⟨by omega,Iff.rfl⟩
def t8(b:Nat):Nat:=if b=0 then 0 else Nat.log2 b+1
def lenTab:ByteArray:=⟨#[0,1,2,2,3,3,3,3,4,4,4,4,4,4,4,4,5,5,5,5,5,5,5,5,5,5,5,5,5,5,5,5,6,6,6,6,6,6,6,6,6,6,6,6,6,6,6,6,6,6,6,6,6,6,6,6,6,6,6,6,6,6,6,6,7,7,7,7,7,7,7,7,7,7,7,7,7,7,7,7,7,7,7,7,7,7,7,7,7,7,7,7,7,7,7,7,7,7,7,7,7,7,7,7,7,7,7,7,7,7,7,7,7,7,7,7,7,7,7,7,7,7,7,7,7,7,7,7,8,8,8,8,8,8,8,8,8,8,8,8,8,8,8,8,8,8,8,8,8,8,8,8,8,8,8,8,8,8,8,8,8,8,8,8,8,8,8,8,8,8,8,8,8,8,8,8,8,8,8,8,8,8,8,8,8,8,8,8,8,8,8,8,8,8,8,8,8,8,8,8,8,8,8,8,8,8,8,8,8,8,8,8,8,8,8,8,8,8,8,8,8,8,8,8,8,8,8,8,8,8,8,8,8,8,8,8,8,8,8,8,8,8,8,8,8,8,8,8,8,8,8,8,8,8,8,8]⟩
theorem P5: ∀b<256,lenTab[b]? =some (UInt8.ofNat (t8 b)):=by decide
theorem Kt: ∀b,b<256→t8 b<256:=by decide
def len16(x:Nat):Nat:=if x<256 then t8 x else 8+t8 (x/256)
theorem RW(x:Nat)(hx:x<65536):CallsF Tryz.prog 373 [.c (.int .u16 x)] (.u (.c (.d (.int .i64 (len16 x))))):=by
 unfold len16;refine cO Tryz.func373 rfl ?_;have hs:lenTab.size=256:=rfl;by_cases h:x<256
 ·have h': ¬256≤x:=by omega
  have hg:=P5 x h;simp -implicitDefEqProofs[jJ,-qA,-qB,-qC,-qD,-qE,h,h'];refine⟨by change _<lenTab.size;omega,?_⟩
  change AI (lenTab[x%256]?) _
  rw[AX h,hg]
  have hk:t8 x<256:=Kt x h;simp -implicitDefEqProofs[jJ,-qA,-qB,-qC,-qD,-qE,hk];rw[AX hk,wrap_i64 (by omega)]
  omega
 ·have h':256≤x:=by omega
  have hg:=P5 (x/256) (by omega)
  simp -implicitDefEqProofs[jJ,-qA,-qB,-qC,-qD,-qE,h,h'];refine⟨by change _<lenTab.size;omega,?_⟩
  change AI (lenTab[x/256%256]?) _
  rw[AX (show x/256<256 by omega),hg]
  have hk:t8 (x/256)<256:=Kt (x/256) (by omega)
  simp -implicitDefEqProofs[jJ,-qA,-qB,-qC,-qD,-qE,hk];rw[AX hk,wrap_i64 (by omega)]
  omega
theorem Wl{b:Nat}(h:0<b):0<t8 b:=by unfold t8;split<;>omega
theorem jbj{x:Nat}(h:0<x):0<len16 x:=by
 unfold len16;split
 ·exact Wl h
 ·omega
theorem Zw{x:Nat}(h:x<65536):len16 x≤300:=by
 unfold len16;split
 ·have:=Kt x (by omega);omega
 ·have:=Kt (x/256) (by omega);omega
theorem J9{n:Nat}(h:n≠0): ∃x,(limbs n)[(limbs n).length - 1]? =some x∧0<x∧x<65536:=by
 induction n using Nat.strongRecOn with
 |_ n ih=>
  rw[EF h]
  by_cases h0:n/65536=0
  ·rw[h0,Cm]
   exact⟨n%65536,rfl,by omega,by omega⟩
  ·obtain⟨x,h1,h2⟩:=ih (n/65536) (by omega) h0
   have hl:(limbs (n/65536)).length≠0:=fun h=>h0 ((SG _).1 h)
   refine⟨x,?_,h2⟩
   rw[show(n%65536::limbs (n/65536)).length - 1=(limbs (n/65536)).length - 1+1 by simp;omega]
   simpa using h1
def FN(n:Nat):Nat:=if n=0 then 0 else 16*((limbs n).length - 1)+len16 ((limbs n).getD ((limbs n).length - 1) 0)
theorem Oy(n:Nat):FN n=0↔n=0:=by
 unfold FN;split
 ·simp[*]
 ·rename_i h
  obtain⟨x,h1,h2,_⟩:=J9 h
  rw[AL,h1]
  have:=jbj h2
  simp only[Option.getD_some];omega
theorem RH(a:List Nat)(ha:Ok a)(hl:a.length≤1099511627776):CallsF Tryz.prog 308 [.c (Ad a)] (.u (.c (.d (.int .i64 (FN (val a)))))):=by
 refine cO Tryz.func308 rfl ?_;simp -implicitDefEqProofs[jJ,-qA,-qB,-qC,-qD,-qE];refine .inl ⟨_,B2 a ha hl,?_⟩
 have hla:=Bu a ha;by_cases h0:val a=0
 ·simp -implicitDefEqProofs[jJ,-qA,-qB,-qC,-qD,-qE,h0,Cm,FN]
 ·obtain⟨x,h1,h2,h3⟩:=J9 h0
  have hne:limbs (val a)≠[]:=fun h=>h0 (limbs_nil.1 h)
  obtain⟨n,hn⟩: ∃n,(limbs (val a)).length=n+1:=⟨(limbs (val a)).length - 1,by have:=List.length_pos_iff.2 hne;omega⟩
  have hb:FN (val a)=16*n+len16 x:=by
   unfold FN;rw[if_neg h0,AL,h1,hn];rfl
  rw[hb]
  rw[hn]at h1
  simp only[Nat.add_sub_cancel]at h1;clear hb;generalize limbs (val a)=y at*;have e:y[n]'(by omega)=x:=by
   have:=AD (l:=y) (i:=n) (by omega)
   rw[h1]at this
   exact(Bi this).symm
  simp -implicitDefEqProofs[jJ,-qA,-qB,-qC,-qD,-qE,hne,hn,h1,u16,e];refine⟨by omega,by omega,by omega,.inl ⟨_,RW x h3,?_⟩⟩
  have:=Zw h3
  simp -implicitDefEqProofs[jJ,-qA,-qB,-qC,-qD,-qE];omega
theorem HS(neg:Bool)(a:List Nat)(ha:Ok a)(hl:a.length≤1099511627776):CallsF Tryz.prog 307 [.agg [.bool neg,Ad a]] (.u (.c (.d (.int .i64 (Bg neg (val a)))))):=by
 refine cO Tryz.func307 rfl ?_;simp -implicitDefEqProofs[jJ,-qA,-qB,-qC,-qD,-qE];refine .inl ⟨_,RH a ha hl,?_⟩
 have hz:=Oy (val a);by_cases h0:val a=0
 ·have hb:=hz.2 h0;simp -implicitDefEqProofs[jJ,-qA,-qB,-qC,-qD,-qE,hb,Bg];simp[h0]
 ·have:FN (val a)≠0:=fun h=>h0 (hz.1 h)
  cases neg<;>simp -implicitDefEqProofs[jJ,-qA,-qB,-qC,-qD,-qE,h0,this,Bg]
theorem jgz(m n:Nat):Nk (m:Int) (n:Int)=cmp3 m n:=by
 unfold Nk cmp3;by_cases h1:m<n
 ·rw[if_pos (by omega),if_pos h1]
 ·rw[if_neg (by omega),if_neg h1]
  by_cases h2:n<m
  ·rw[if_pos (by omega),if_pos h2]
  ·rw[if_neg (by omega),if_neg h2]
theorem jlJ(m n:Nat):Nk (-(m:Int)) (-(n:Int))=cmp3 n m:=by
 unfold Nk cmp3;by_cases h1:n<m
 ·rw[if_pos (by omega),if_pos h1]
 ·rw[if_neg (by omega),if_neg h1]
  by_cases h2:m<n
  ·rw[if_pos (by omega),if_pos h2]
  ·rw[if_neg (by omega),if_neg h2]
theorem QP(neg:Bool)(n:Nat):LG (sg neg n) n=LG neg n:=by
 unfold LG sg;cases neg<;>simp;intro h;subst h;rfl
theorem jgf(na nb:Bool)(a b:List Nat)(ha:Ok a)(hl:a.length≤1099511627776)(hb:Ok b)(hm:b.length≤1099511627776):
  CallsF Tryz.prog 189 [.agg [.bool na,Ad a],.agg [.bool nb,Ad b]] (.u (.c (.d (.int .i64 (Nk (LG na (val a)) (LG nb (val b))))))):=by
 refine cO Tryz.func189 rfl ?_;simp -implicitDefEqProofs[jJ,-qA,-qB,-qC,-qD,-qE];refine AA (Ah [0,1,0,7,15,31]) [.any [] [] (Aq [[2],[5],[3]]),.one,.one,.one] (by rfl) ?_
 simp -implicitDefEqProofs[jJ,-qA,-qB,-qC,-qD,-qE];refine Ae (IS na a ha hl) ?_;simp -implicitDefEqProofs[jJ,-qA,-qB,-qC,-qD,-qE,AU];refine Ac (IS nb b hb hm) ?_;have hla:=Bu a ha;have hlb:=Bu b hb;have e1:=QP na (val a);have e2:=QP nb (val b);have c1:=Iq (limbs (val a)) (limbs (val b)) (Aw _) (by omega) (Aw _) (by omega)
 have c2:=Iq (limbs (val b)) (limbs (val a)) (Aw _) (by omega) (Aw _) (by omega)
 rw[Az,Az]at c1 c2
 have p1:sg na (val a)=true→0<val a:=fun h=>by unfold sg at h;simp at h;omega
 have p2:sg nb (val b)=true→0<val b:=fun h=>by unfold sg at h;simp at h;omega
 rw[←e1,←e2]
 simp only[AU];generalize sg na (val a)=x at*;generalize sg nb (val b)=y at*;cases x<;>cases y
 ·simp -implicitDefEqProofs[jJ,-qA,-qB,-qC,-qD,-qE,AU];refine .inl ⟨_,c1,?_⟩;simp -implicitDefEqProofs[jJ,-qA,-qB,-qC,-qD,-qE,LG];rw[jgz]
 ·have:=p2 rfl
  simp -implicitDefEqProofs[jJ,-qA,-qB,-qC,-qD,-qE,AU,LG];unfold Nk;rw[if_neg (by omega),if_pos (by omega)]
 ·have:=p1 rfl
  simp -implicitDefEqProofs[jJ,-qA,-qB,-qC,-qD,-qE,AU,LG];unfold Nk;rw[if_pos (by omega)]
 ·simp -implicitDefEqProofs[jJ,-qA,-qB,-qC,-qD,-qE,AU];refine .inl ⟨_,c2,?_⟩;simp -implicitDefEqProofs[jJ,-qA,-qB,-qC,-qD,-qE,LG];rw[jlJ]
end Go.Va
