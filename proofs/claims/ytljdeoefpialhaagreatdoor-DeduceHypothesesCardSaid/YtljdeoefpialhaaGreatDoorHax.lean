/- a part of the proof -/
import Derived.Test.YtljdeoefpialhaaGreatDoorHav
import Derived.Test.YtljdeoefpialhaaGreatDoorHaw
import Derived.Test.YtljdeoefpialhaaGreatDoorRows
import Derived.ProofKit
import Derived.OpenShut
import Derived.Carry
import Derived.ChangeSlices
set_option linter.all false
set_option maxHeartbeats 4000000
set_option maxRecDepth 100000
namespace Go.Va
open Int renaming natCast_add → qA, natCast_mul → qB, natCast_emod → qC, natCast_ediv → qD, natCast_pow → qE
open List renaming reduceReplicate → qF
open Go.Proofs
theorem FM(a:List Nat):CallsF Tryz.prog 183 [.c (Ad a)] (.u (.agg [.d (.bool false),.d (Ad a)])):=by
 refine cO Tryz.func183 rfl ?_;simp -implicitDefEqProofs[jJ,-qA,-qB]
theorem Ix(neg:Bool)(m d:Nat)(hm:m<340282366920938463463374607431768211456)(hd:d<340282366920938463463374607431768211456)(h0:d≠0)(hg:Nat.gcd m d=1):
  CallsF Tryz.prog 114 [.agg [.bool neg,Ad (limbs m)],.c (Ad (limbs d))] (.u (.agg [.d (.bool (sg neg m)),.d (Ad (limbs m)),.d (Ad (limbs d))])):=by
 refine cO Tryz.func114 rfl ?_;have lm:=BP hm;have ld:=BP hd;have n1:=CM (limbs d) (Aw _) (by omega)
 have g:=Ku (limbs m) (limbs d) (Aw _) (by omega) (Aw _) (by omega)
 have q1:=ID (limbs m) (limbs 1) (Aw _) (by omega) (Aw _) (by decide) (by rw[Az];omega)
 have q2:=ID (limbs d) (limbs 1) (Aw _) (by omega) (Aw _) (by decide) (by rw[Az];omega)
 have n2:=IS neg (limbs m) (Aw _) (by omega)
 rw[Az,Az,hg]at g
 rw[Az]at n1 n2
 rw[Az,Az,Nat.div_one,Nat.mod_one]at q1 q2
 have hne:limbs d≠[]:=fun h=>h0 (limbs_nil.1 h)
 simp -implicitDefEqProofs[jJ,-qA,-qB];refine Ac n1 ?_;simp -implicitDefEqProofs[jJ,-qA,-qB,hne];refine Ac g ?_;simp -implicitDefEqProofs[jJ,-qA,-qB];refine Ac q1 ?_;simp -implicitDefEqProofs[jJ,-qA,-qB];refine Ac q2 ?_;simp -implicitDefEqProofs[jJ,-qA,-qB];refine Ac n2 ?_;simp -implicitDefEqProofs[jJ,-qA,-qB,AU]
theorem I2(neg:Bool)(m d:Nat)(hm:m<340282366920938463463374607431768211456)(hd:d<340282366920938463463374607431768211456)(h0:d≠0)(hg:Nat.gcd m d=1):
  CallsF Tryz.prog 180 [.agg [.bool neg,Ad (limbs m),Ad (limbs d)]] (.u (.agg [.d (.bool (sg neg m)),.d (Ad (limbs m)),.d (Ad (limbs d))])):=by
 refine cO Tryz.func180 rfl ?_;simp -implicitDefEqProofs[jJ,-qA,-qB];refine Ac (Ix neg m d hm hd h0 hg) ?_
 simp -implicitDefEqProofs[jJ,-qA,-qB]
theorem Nh(neg:Bool)(m:Nat):sg (sg neg m) m=sg neg m:=by
 cases neg<;>simp[sg]
theorem jjN(neg:Bool)(m:Nat):Bg (sg neg m) m=Bg neg m:=by
 unfold sg Bg;split
 ·rfl
 ·rename_i h
  have:0<m:=by omega
  cases neg<;>simp[this]
theorem Na(neg:Bool)(m d:Nat)(hm:m<340282366920938463463374607431768211456)(hd:d<340282366920938463463374607431768211456)(h0:d≠0)(hg:Nat.gcd m d=1):
  CallsF Tryz.prog 109 [.agg [.bool neg,Ad (limbs m),Ad (limbs d)]] (.u (.c (.d (.int .i64 (Bg neg m))))):=by
 refine cO Tryz.func109 rfl ?_;have lm:=BP hm;have s1:=US (sg neg m) (limbs m) (Aw _) (by omega)
 rw[Az,jjN]at s1
 simp -implicitDefEqProofs[jJ,-qA,-qB];refine Ac (I2 neg m d hm hd h0 hg) ?_;simp -implicitDefEqProofs[jJ,-qA,-qB];refine Ac s1 ?_;simp -implicitDefEqProofs[jJ,-qA,-qB]
theorem LL(na nb:Bool)(m d n e:Nat)(hm:m<340282366920938463463374607431768211456)(hd:d<340282366920938463463374607431768211456)(h0:d≠0)(hg:Nat.gcd m d=1)(hn:n<340282366920938463463374607431768211456)(he:e<340282366920938463463374607431768211456)(e0:e≠0)(hh:Nat.gcd n e=1):
  CallsF Tryz.prog 111 [.agg [.bool na,Ad (limbs m),Ad (limbs d)],.agg [.bool nb,Ad (limbs n),Ad (limbs e)]] (.u (.c (.d (.int .i64 (cmpZ (toZ na m*e) (toZ nb n*d)))))):=by
 refine cO Tryz.func111 rfl ?_;have lm:=BP hm;have ld:=BP hd;have ln:=BP hn;have le:=BP he;have b1:=Cp (limbs m) (limbs e) (Aw _) (Aw _);have b2:=Cp (limbs n) (limbs d) (Aw _) (Aw _);have m1:=EM (sg na m) false (limbs m) (limbs e) (Aw _) (by omega) (Aw _) (by omega) (by omega)
 have m2:=EM (sg nb n) false (limbs n) (limbs d) (Aw _) (by omega) (Aw _) (by omega) (by omega)
 rw[Az,Az]at m1 m2 b1 b2
 have k:=Od (sg (sg na m) (m*e)) (sg (sg nb n) (n*d)) (limbs (m*e)) (limbs (n*d)) (Aw _) (by omega) (Aw _) (by omega)
 rw[Az,Az,FR,FR,JO,JO,FR,FR]at k
 simp -implicitDefEqProofs[jJ,-qA,-qB];refine AA (Ah [0,1,0,7,15,31]) [.any [] [] (Aq [[2],[5],[3]]),.one,.one,.one] (by rfl) ?_
 simp -implicitDefEqProofs[jJ,-qA,-qB];refine Ae (I2 na m d hm hd h0 hg) ?_;simp -implicitDefEqProofs[jJ,-qA,-qB];refine Ac (I2 nb n e hn he e0 hh) ?_;simp -implicitDefEqProofs[jJ,-qA,-qB];refine AA (Ah [0,1,0,4,12,31,0,64,0,256,831,2047,4095,8191]) [.any [] [] (Aq [[2],[9],[3],[11],[12],[10,13],[3],[15],[2],[17],[18]]),.one,.one,.one] (by rfl) ?_
 simp -implicitDefEqProofs[jJ,-qA,-qB];refine Ae (FM (limbs e)) ?_;simp -implicitDefEqProofs[jJ,-qA,-qB];refine Ae m1 ?_;simp -implicitDefEqProofs[jJ,-qA,-qB,AU];refine Ae (FM (limbs d)) ?_;simp -implicitDefEqProofs[jJ,-qA,-qB];refine Ac m2 ?_;simp -implicitDefEqProofs[jJ,-qA,-qB,AU];refine Ac k ?_;simp -implicitDefEqProofs[jJ,-qA,-qB]
theorem jeW(na nb:Bool)(m d n e:Nat)(hm:m<340282366920938463463374607431768211456)(hd:d<340282366920938463463374607431768211456)(h0:d≠0)(hg:Nat.gcd m d=1)(hn:n<340282366920938463463374607431768211456)(he:e<340282366920938463463374607431768211456)(e0:e≠0)(hh:Nat.gcd n e=1):
  CallsF Tryz.prog 99 [.agg [.bool na,Ad (limbs m),Ad (limbs d)],.agg [.bool nb,Ad (limbs n),Ad (limbs e)]] (.u (.c (.d (.bool (decide (toZ na m*e=toZ nb n*d)))))):=by
 refine cO Tryz.func99 rfl ?_;have k:=LL na nb m d n e hm hd h0 hg hn he e0 hh;have e:=DP (toZ na m*e) (toZ nb n*d);simp -implicitDefEqProofs[jJ,-qA,-qB];refine Ac k ?_
 simp -implicitDefEqProofs[jJ,-qA,-qB,e]
theorem Ic(n:Nat)(hn:n<9223372036854775808):CallsF Tryz.prog 48 [.c (.int .i64 n)] (.u (.agg [.d (.bool false),.d (Ad (limbs n)),.d (Ad (limbs 1))])):=by
 refine cO Tryz.func48 rfl ?_;simp -implicitDefEqProofs[jJ,-qA,-qB];refine Ac (Nk n hn) ?_
 simp -implicitDefEqProofs[jJ,-qA,-qB,AU];refine Ac (C6 1 (by omega)) ?_
 simp -implicitDefEqProofs[jJ,-qA,-qB];have k:=Ix (sg false n) n 1 (by omega) (by omega) (by omega) (Nat.gcd_one_right n)
 refine Ac k ?_;simp -implicitDefEqProofs[jJ,-qA,-qB,sg]
theorem Pq(na nb:Bool)(m d:Nat)(hm:m<340282366920938463463374607431768211456)(hd:d<340282366920938463463374607431768211456)(hg:Nat.gcd m d=1):
  CallsF Tryz.prog 46 [.agg [.bool na,Ad (limbs m)],.agg [.bool nb,Ad (limbs d)]]
   (if d=0 then .tup [.agg [.d (.bool false),.d (Ad []),.d (Ad [])],.c (.d (.int .i64 3))]
   else .tup [.agg [.d (.bool (sg (!decide (na=nb)) m)),.d (Ad (limbs m)),.d (Ad (limbs d))],.c (.d (.int .i64 0))]):=by
 have lm:=BP hm;have ld:=BP hd;have s1:=US nb (limbs d) (Aw _) (by omega)
 have g1:=Tw na (limbs m) (Aw _) (by omega)
 rw[Az]at s1 g1
 by_cases h0:d=0
 ·rw[if_pos h0]
  refine cO Tryz.func46 rfl ?_;simp -implicitDefEqProofs[jJ,-qA,-qB];refine Ac s1 ?_
  simp -implicitDefEqProofs[jJ,-qA,-qB,Dw,h0];rfl
 ·rw[if_neg h0]
  refine cO Tryz.func46 rfl ?_;simp -implicitDefEqProofs[jJ,-qA,-qB];refine Ac s1 ?_
  cases nb
  ·simp -implicitDefEqProofs[jJ,-qA,-qB,Dw,h0];refine Ac (Ix na m d hm hd h0 hg) ?_;cases na<;>simp -implicitDefEqProofs[jJ,-qA,-qB]
  ·simp -implicitDefEqProofs[jJ,-qA,-qB,Dw,h0];refine Ac g1 ?_;simp -implicitDefEqProofs[jJ,-qA,-qB,AU];refine Ac (Ix _ m d hm hd h0 hg) ?_;cases na<;>simp -implicitDefEqProofs[jJ,-qA,-qB,Nh]
theorem TO(neg:Bool)(m d:Nat)(hm:m<340282366920938463463374607431768211456)(hd:d<340282366920938463463374607431768211456)(d0:d≠0)(hg:Nat.gcd m d=1):
  CallsF Tryz.prog 178 [.agg [.bool false,Ad (limbs 1),Ad (limbs 1)],.agg [.bool neg,Ad (limbs m),Ad (limbs d)]]
   (if m=0 then .tup [.agg [.d (.bool false),.d (Ad []),.d (Ad [])],.c (.d (.int .i64 3))]
   else .tup [.agg [.d (.bool neg),.d (Ad (limbs d)),.d (Ad (limbs m))],.c (.d (.int .i64 0))]):=by
 have lm:=BP hm;have ld:=BP hd;have l1:(limbs 1).length=1:=rfl;have m1:=EM (sg false 1) false (limbs 1) (limbs d) (Aw _) (by omega) (Aw _) (by omega) (by rw[Az,Az,Nat.one_mul];omega)
 have m2:=EM (sg neg m) false (limbs m) (limbs 1) (Aw _) (by omega) (Aw _) (by omega) (by rw[Az,Az,Nat.mul_one];omega)
 rw[Az,Az,Nat.one_mul]at m1
 rw[Az,Az,Nat.mul_one]at m2
 have k:=Pq (sg false d) (sg neg m) d m hd hm (by rw[Nat.gcd_comm];exact hg)
 have e1:sg (!decide (sg false d=sg neg m)) d=(neg&&decide (0<m)):=by
  have:0<d:=by omega
  cases neg<;>by_cases hz:m=0<;>simp[sg,this,hz]<;>omega
 rw[e1]at k
 refine cO Tryz.func178 rfl ?_;simp -implicitDefEqProofs[jJ,-qA,-qB];refine AA (Ah [0,1,0,7,15,31]) [.any [] [] (Aq [[2],[6],[3]]),.one,.one,.one] (by rfl) ?_
 simp -implicitDefEqProofs[jJ,-qA,-qB];refine Ae (I2 false 1 1 (by omega) (by omega) (by omega) (by decide)) ?_
 simp -implicitDefEqProofs[jJ,-qA,-qB];refine Ac (I2 neg m d hm hd d0 hg) ?_;simp -implicitDefEqProofs[jJ,-qA,-qB];refine AA (Ah [0,1,0,4,12,31,0,64,0,256,831,2047,4095,8191,8191,32767,65535]) [.any [] [] (Aq [[2],[10],[3],[12],[13],[11,14],[3],[16],[2],[18],[19]]),.one,.one,.any [] [] (Aq [[22],[22]]),.one,.one] (by rfl) ?_
 simp -implicitDefEqProofs[jJ,-qA,-qB];refine Ae (FM (limbs d)) ?_;simp -implicitDefEqProofs[jJ,-qA,-qB];refine Ae m1 ?_;simp -implicitDefEqProofs[jJ,-qA,-qB,AU,Nh];refine Ae (FM (limbs 1)) ?_;simp -implicitDefEqProofs[jJ,-qA,-qB];refine Ac m2 ?_;simp -implicitDefEqProofs[jJ,-qA,-qB,AU,Nh];refine Ac k ?_;by_cases h0:m=0
 ·simp -implicitDefEqProofs[jJ,-qA,-qB,h0]
 ·have:0<m:=by omega
  simp -implicitDefEqProofs[jJ,-qA,-qB,h0,this]
theorem jfv(m d:Nat)(hm:m<9223372036854775808)(hd:d<9223372036854775808)(d0:d≠0)(hg:Nat.gcd m d=1):
  CallsF Tryz.prog 21 [.c (.int .i64 m),.c (.int .i64 d)] (.u (.agg [.d (.bool false),.d (Ad (limbs m)),.d (Ad (limbs d))])):=by
 have k:=Pq (sg false m) (sg false d) m d (by omega) (by omega) hg
 rw[if_neg d0]at k
 refine cO Tryz.func21 rfl ?_;simp -implicitDefEqProofs[jJ,-qA,-qB];refine Ac (Nk m hm) ?_
 simp -implicitDefEqProofs[jJ,-qA,-qB,AU];refine Ac (Nk d hd) ?_;simp -implicitDefEqProofs[jJ,-qA,-qB,AU];refine Ac k ?_;simp -implicitDefEqProofs[jJ,-qA,-qB,sg]
theorem jds{m n:Nat}(hm:m<340282366920938463463374607431768211456)(hn:n<340282366920938463463374607431768211456):Nat.gcd m n<340282366920938463463374607431768211456:=by
 rcases Nat.eq_zero_or_pos n with h|h
 ·subst h;rw[Nat.gcd_zero_right];exact hm
 ·exact Nat.lt_of_le_of_lt (Nat.gcd_le_right m h) hn
theorem jfl(neg:Bool)(a b:List Nat)(ha:Ok a)(hl:a.length≤8)(hb:Ok b)(hm:b.length≤8):
  CallsF Tryz.prog 94 [.agg [.bool neg,Ad a,Ad b]] (.u (.c (.d (.bool (ratOk neg a b))))):=by
 refine cO Tryz.func94 rfl ?_;have k:=Ta neg a (by omega)
 have v:=KZ b (by omega)
 have g:=Ku a b ha (by omega) hb (by omega)
 have s:=T9 (limbs (Nat.gcd (val a) (val b))) (limbs 1) (by have:=BP (jds (M4 ha hl) (M4 hb hm));omega)
 unfold ratOk;cases hr:(lastOk a&& !(neg&&decide (a=[])))
 ·rw[hr]at k
  simp -implicitDefEqProofs[jJ,-qA,-qB];refine Ac k ?_;simp -implicitDefEqProofs[jJ,-qA,-qB]
 ·rw[hr]at k
  simp -implicitDefEqProofs[jJ,-qA,-qB];refine Ac k ?_;simp -implicitDefEqProofs[jJ,-qA,-qB];refine Ac v ?_;cases hv:lastOk b
  ·simp -implicitDefEqProofs[jJ,-qA,-qB]
  ·simp -implicitDefEqProofs[jJ,-qA,-qB]
   (first|refine Ac g ?_|refine Ae g ?_)
   simp -implicitDefEqProofs[jJ,-qA,-qB]
   (first|refine Ac (C6 1 (by omega)) ?_|refine Ae (C6 1 (by omega)) ?_)
   simp -implicitDefEqProofs[jJ,-qA,-qB]
   (first|refine Ac s ?_|refine Ae s ?_)
   simp -implicitDefEqProofs[jJ,-qA,-qB];simp only[Ea,Hx];refine⟨fun h1=> ?_,fun h1 _ h2=>h1 h2⟩
   cases b<;>simp[h1]
theorem SI(a:Int):CallsF Tryz.prog 142 [.c (.int .i64 a)] (.u (.c (.d (.bool false)))):=by
 refine cO Tryz.func142 rfl ?_;simp -implicitDefEqProofs[jJ,-qA,-qB]
theorem PX(a b:Int):CallsF Tryz.prog 68 [.c (.int .i64 a),.c (.int .i64 b)] (.u (.c (.d (.int .i64 (cmpZ a b))))):=by
 refine cO Tryz.func68 rfl ?_;simp -implicitDefEqProofs[jJ,-qA,-qB];refine Ac (SI a) ?_
 simp -implicitDefEqProofs[jJ,-qA,-qB];refine Ac (SI b) ?_;simp -implicitDefEqProofs[jJ,-qA,-qB];unfold cmpZ;refine⟨fun h=>by rw[if_pos h],fun h=>⟨fun h2=>by rw[if_neg (by omega),if_pos h2],fun h2=>by rw[if_neg (by omega),if_neg (by omega)]⟩⟩
def BV:List Int→Int
 |[]=>0
 |a::l=>if a=0 then BV l else a
theorem jg1{l:List Int}{i:Nat}(h:i<l.length):BV (l.drop i)=if l[i]=0 then BV (l.drop (i+1)) else l[i]:=by
 rw[BQ h]
 rfl
theorem S8(l:List Int)(hl:l.length≤1099511627776):CallsF Tryz.prog 67 [.c (intsD l)] (.u (.c (.d (.int .i64 (BV l))))):=by
 refine cO Tryz.func67 rfl ?_;simp -implicitDefEqProofs[jJ,-qA,-qB];refine AV (fun i:Nat=>⟨[(8,vI .i64 i),(7,vI .i64 l.length),(6,vC (.d (intsD l))),(3,vI .i64 0)],[]⟩) (fun i=>i≤l.length∧BV (l.drop i)=BV l) (fun i=>l.length - i) 0 (by simp) ⟨by omega,rfl⟩ ?_
 rintro i ⟨h1,h2⟩
 by_cases h:i<l.length
 ·have e:=jg1 h;by_cases h0:l[i]=0
  ·rw[h0]at e
   simp -implicitDefEqProofs[jJ,-qA,-qB,h,h0,i64];rw[if_pos rfl]at e;exact⟨by omega,⟨by omega,by rw[←e,h2]⟩,by omega⟩
  ·simp -implicitDefEqProofs[jJ,-qA,-qB,h,h0,i64];rw[←h2,e,if_neg h0]
 ·have:i=l.length:=by omega
  subst this;simp -implicitDefEqProofs[jJ,-qA,-qB];rw[List.drop_length]at h2;exact h2
def BF:List Int→List Int→Int
 |[],[]=>0
 |[],_::_=> -1
 |_::_,[]=>1
 |a::x,b::y=>if cmpZ a b=0 then BF x y else cmpZ a b
theorem jek(y:List Int):BF [] y=if 0<y.length then -1 else 0:=by cases y<;>simp[BF]
theorem jhZ{x y:List Int}{i:Nat}(h:i<x.length)(hy:i<y.length):BF (x.drop i) (y.drop i)=if cmpZ x[i] y[i]=0 then BF (x.drop (i+1)) (y.drop (i+1)) else cmpZ x[i] y[i]:=by
 rw[BQ h,BQ hy]
 rfl
theorem jid{x y:List Int}{i:Nat}(h:i<x.length)(hy:i=y.length):BF (x.drop i) (y.drop i)=1:=by
 subst hy;rw[BQ h,List.drop_length];rfl
theorem jlX(x y:List Int)(hx:x.length≤1099511627776)(hy:y.length≤1099511627776):CallsF Tryz.prog 69 [.c (intsD x),.c (intsD y)] (.u (.c (.d (.int .i64 (BF x y))))):=by
 refine cO Tryz.func69 rfl ?_;simp -implicitDefEqProofs[jJ,-qA,-qB];refine AV (fun i:Nat=>⟨[(11,vI .i64 i),(10,vI .i64 x.length),(9,vC (.d (intsD x))),(0,vC (.d (intsD x))),(1,vC (.d (intsD y)))],[]⟩) (fun i=>i≤x.length∧i≤y.length∧BF (x.drop i) (y.drop i)=BF x y) (fun i=>x.length - i) 0 (by simp) ⟨by omega,by omega,rfl⟩ ?_
 rintro i ⟨h1,h3,h2⟩
 by_cases h:i<x.length
 ·by_cases hb:i<y.length
  ·have e:=jhZ h hb;have hn: ¬y.length≤i:=by omega
   simp -implicitDefEqProofs[jJ,-qA,-qB,h,hb,hn,i64];refine Ac (PX x[i] y[i]) ?_;by_cases h0:cmpZ x[i] y[i]=0
   ·rw[if_pos h0]at e
    simp -implicitDefEqProofs[jJ,-qA,-qB,h0];exact⟨by omega,⟨by omega,by omega,by rw[←e,h2]⟩,by omega⟩
   ·rw[if_neg h0]at e
    simp -implicitDefEqProofs[jJ,-qA,-qB,h0];rw[←h2,e]
  ·have e:i=y.length:=by omega
   have e2:=jid h e;rw[h2]at e2;have hn:y.length≤i:=by omega
   simp -implicitDefEqProofs[jJ,-qA,-qB,h,hn,i64];rw[e2]
 ·have:i=x.length:=by omega
  subst this;rw[List.drop_length,jek,List.length_drop]at h2;rw[←h2];by_cases hb:x.length<y.length
  ·rw[if_pos (by omega)]
   simp -implicitDefEqProofs[jJ,-qA,-qB,hb]
  ·rw[if_neg (by omega)]
   simp -implicitDefEqProofs[jJ,-qA,-qB,hb]
def EQ:List Int→Int→Nat→Int
 |[],_,_=> -1
 |a::l,v,i=>if v=a then i else EQ l v (i+1)
theorem O1: ∀(l:List Int) (v:Int) (i:Nat),0≤EQ l v i↔v∈l
 |[],v,i=>by simp[EQ]
 |a::l,v,i=>by
  unfold EQ;by_cases h:v=a
  ·rw[if_pos h];simp[h]
  ·rw[if_neg h,O1 l v (i+1)];simp[h]
theorem jg8{l:List Int}{v:Int}{i:Nat}(h:i<l.length):EQ (l.drop i) v i=if v=l[i] then (i:Int) else EQ (l.drop (i+1)) v (i+1):=by
 rw[BQ h]
 rfl
theorem U5(l:List Int)(v:Int)(hl:l.length≤1099511627776):CallsF Tryz.prog 194 [.c (intsD l),.c (.int .i64 v)] (.u (.c (.d (.int .i64 (EQ l v 0))))):=by
 refine cO Tryz.func194 rfl ?_;simp -implicitDefEqProofs[jJ,-qA,-qB];refine AV (fun i:Nat=>⟨[(8,vI .i64 i),(7,vI .i64 l.length),(6,vC (.d (intsD l))),(0,vC (.d (intsD l))),(1,vI .i64 v)],[]⟩) (fun i=>i≤l.length∧EQ (l.drop i) v i=EQ l v 0) (fun i=>l.length - i) 0 (by simp) ⟨by omega,rfl⟩ ?_
 rintro i ⟨h1,h2⟩
 by_cases h:i<l.length
 ·have e:=jg8 (v:=v) h;by_cases h0:v=l[i]
  ·rw[if_pos h0]at e
   simp -implicitDefEqProofs[jJ,-qA,-qB,h,←h0,i64];rw[←h2,e]
  ·rw[if_neg h0]at e
   simp -implicitDefEqProofs[jJ,-qA,-qB,h,h0,i64];exact⟨by omega,⟨by omega,by rw[←e,h2]⟩,by omega⟩
 ·have:i=l.length:=by omega
  subst this;rw[List.drop_length]at h2;simp -implicitDefEqProofs[jJ,-qA,-qB];exact h2
theorem Wj(l:List Int)(v:Int)(hl:l.length≤1099511627776):CallsF Tryz.prog 124 [.c (intsD l),.c (.int .i64 v)] (.u (.c (.d (.bool (decide (v∈l)))))):=by
 refine cO Tryz.func124 rfl ?_;have e:=O1 l v 0;have k:=U5 l v hl;simp -implicitDefEqProofs[jJ,-qA,-qB];refine Ac k ?_
 simp -implicitDefEqProofs[jJ,-qA,-qB,e]
theorem jcA{α:Type}{T:AH}{t:TypeId}{i:TI}(hT:T t=some i)(hz:i.zero=[.nl])(ha:i.agg=false)(e:α→D){l:List α}(hl:l≠[]):binV T .eql t (.u (.c (.d (EC e l)))) (.u (.c .nl))=some (vB false):=by
 have hn:l.length≠0:=fun h=>hl (jzv.1 h)
 show(T t).bind _=_
 rw[hT]
 simp only[Option.bind_some];have:EJ i (.u (.c (.d (EC e l)))) (.u (.c .nl))=some false:=by
  unfold EJ EC;simp only[hz,ha];rw[if_neg (by simp),if_neg hn]
 rw[this]
 rfl
theorem Z9(l:List Int)(hl:l.length≤1099511627776)(h0:l≠[]):CallsF Tryz.prog 61 [.c (intsD l)] (.u (.c (.own 1 l.length (l.map i64)))):=by
 refine cO Tryz.func61 rfl ?_;have:l.length≠0:=fun h=>h0 (jzv.1 h)
 have e:=jcA (T:=tb) (t:=40) rfl rfl rfl i64 h0;simp -implicitDefEqProofs[jJ,-qA,-qB,e];exact⟨by omega,by omega⟩
structure Fct where
 kind:Int
 args:List Int
 neg:Bool
 abs:List Nat
 den:List Nat
 deriving DecidableEq
@[simp]def Fct.ds(f:Fct):List D:=[.int .i64 f.kind,intsD f.args,.bool f.neg,Ad f.abs,Ad f.den]
def arity(k:Int):Nat:=if k=1∨k=5 then 3 else if k=2∨k=3∨k=4∨k=6∨k=9 then 4 else if k=7 then 8 else if k=8 then 2 else 0
theorem It(k:Int):CallsF Tryz.prog 97 [.c (.int .i64 k)] (.u (.c (.d (.int .i64 (arity k))))):=by
 refine cO Tryz.func97 rfl ?_;by_cases h1:k=1
 ·subst h1;simp -implicitDefEqProofs[jJ,-qA,-qB,arity]
 by_cases h2:k=2
 ·subst h2;simp -implicitDefEqProofs[jJ,-qA,-qB,arity]
 by_cases h3:k=3
 ·subst h3;simp -implicitDefEqProofs[jJ,-qA,-qB,arity]
 by_cases h4:k=4
 ·subst h4;simp -implicitDefEqProofs[jJ,-qA,-qB,arity]
 by_cases h5:k=5
 ·subst h5;simp -implicitDefEqProofs[jJ,-qA,-qB,arity]
 by_cases h6:k=6
 ·subst h6;simp -implicitDefEqProofs[jJ,-qA,-qB,arity]
 by_cases h7:k=7
 ·subst h7;simp -implicitDefEqProofs[jJ,-qA,-qB,arity]
 by_cases h8:k=8
 ·subst h8;simp -implicitDefEqProofs[jJ,-qA,-qB,arity]
 by_cases h9:k=9
 ·subst h9;simp -implicitDefEqProofs[jJ,-qA,-qB,arity]
 simp -implicitDefEqProofs[jJ,-qA,-qB,arity,h1,h2,h3,h4,h5,h6,h7,h8,h9]
theorem jj5(k:Int):CallsF Tryz.prog 79 [.c (.int .i64 k)] (.u (.c (.d (.int .i64 (arity k))))):=by
 refine cO Tryz.func79 rfl ?_;by_cases h1:k=1
 ·subst h1;simp -implicitDefEqProofs[jJ,-qA,-qB,arity]
 by_cases h2:k=2
 ·subst h2;simp -implicitDefEqProofs[jJ,-qA,-qB,arity]
 by_cases h3:k=3
 ·subst h3;simp -implicitDefEqProofs[jJ,-qA,-qB,arity]
 by_cases h4:k=4
 ·subst h4;simp -implicitDefEqProofs[jJ,-qA,-qB,arity]
 by_cases h5:k=5
 ·subst h5;simp -implicitDefEqProofs[jJ,-qA,-qB,arity]
 by_cases h6:k=6
 ·subst h6;simp -implicitDefEqProofs[jJ,-qA,-qB,arity]
 by_cases h7:k=7
 ·subst h7;simp -implicitDefEqProofs[jJ,-qA,-qB,arity]
 by_cases h8:k=8
 ·subst h8;simp -implicitDefEqProofs[jJ,-qA,-qB,arity]
 by_cases h9:k=9
 ·subst h9;simp -implicitDefEqProofs[jJ,-qA,-qB,arity]
 simp -implicitDefEqProofs[jJ,-qA,-qB,arity,h1,h2,h3,h4,h5,h6,h7,h8,h9]
def noRat(neg:Bool)(a b:List Nat):Bool:= !neg&&decide (a=[])&&decide (b=[])
theorem Y8(neg:Bool)(a b:List Nat):CallsF Tryz.prog 80 [.agg [.bool neg,Ad a,Ad b]] (.u (.c (.d (.bool (noRat neg a b))))):=by
 refine cO Tryz.func80 rfl ?_;cases neg<;>cases a<;>cases b<;>simp -implicitDefEqProofs[jJ,-qA,-qB,noRat]
theorem SB(neg:Bool)(a b:List Nat):CallsF Tryz.prog 98 [.agg [.bool neg,Ad a,Ad b]] (.u (.c (.d (.bool (noRat neg a b))))):=by
 refine cO Tryz.func98 rfl ?_;cases neg<;>cases a<;>cases b<;>simp -implicitDefEqProofs[jJ,-qA,-qB,noRat]
def wrong(f:Fct)(n:Int):Int:=
 if arity f.kind=0 then 8 else if f.args.length≠arity f.kind then 1 else if f.args.any (fun a=>decide (a<0)||decide (n≤a)) then 2
 else if (if f.kind=9 then ratOk f.neg f.abs f.den else noRat f.neg f.abs f.den) then 0 else 1
structure Fct.Mild (f:Fct):Prop where
 la:f.abs.length≤8
 ld:f.den.length≤8
 oa:Ok f.abs
 od:Ok f.den
 ln:f.args.length≤1099511627776
theorem Lq{l:List Int}{p:Int→Bool}{i:Nat}(h:i<l.length):(l.drop i).any p=(p l[i]||(l.drop (i+1)).any p):=by
 rw[BQ h,List.any_cons]
theorem RO(f:Fct)(hf:f.Mild)(n:Int):CallsF Tryz.prog 30 [.agg f.ds,.c (.int .i64 n)] (.u (.c (.d (.int .i64 (wrong f n))))):=by
 refine cO Tryz.func30 rfl ?_;obtain⟨kind,args,neg,abs,den⟩:=f;obtain⟨la,ld,oa,od,ln⟩:=hf;simp only at la ld oa od ln;simp only[Fct.ds,wrong];simp -implicitDefEqProofs[jJ,-qA,-qB];refine Ac (jj5 kind) ?_
 generalize arity kind=ar at*;by_cases h1:ar=0
 ·simp -implicitDefEqProofs[jJ,-qA,-qB,h1]
 by_cases h2:args.length=ar
 ·simp -implicitDefEqProofs[jJ,-qA,-qB,h1,h2];refine AV (fun i:Nat=>⟨[(21,vI .i64 i),(20,vI .i64 (ar:Nat)),(19,vC (.d (intsD args))),(2,vC (.ptr 2 0)),(1,vI .i64 n)],[(2,.box [.d (.int .i64 kind),.d (intsD args),.d (.bool neg),.d (Ad abs),.d (Ad den)])]⟩) (fun i=>i≤args.length∧(args.drop i).any (fun a=>decide (a<0)||decide (n≤a))=args.any (fun a=>decide (a<0)||decide (n≤a))) (fun i=>args.length - i) 0 (by simp) ⟨by omega,rfl⟩ ?_
  rintro i ⟨h3,h4⟩
  by_cases h:i<args.length
  ·have e:=Lq (p:=fun a=>decide (a<0)||decide (n≤a)) h
   have hk:i<ar:=by omega
   rw[e]at h4
   by_cases h5:args[i]<0
   ·simp -implicitDefEqProofs[jJ,-qA,-qB,h,hk,h5,i64];intro hh;have:=hh _ (AZ h);omega
   ·by_cases h6:n≤args[i]
    ·simp -implicitDefEqProofs[jJ,-qA,-qB,h,hk,h5,h6,i64];intro hh;have:=hh _ (AZ h);omega
    ·simp -implicitDefEqProofs[jJ,-qA,-qB,h,hk,h5,h6,i64];simp only[decide_eq_false h5,decide_eq_false h6,Bool.false_or]at h4;exact⟨by omega,⟨by omega,h4⟩,by omega⟩
  ·have hk: ¬i<ar:=by omega
   have e:i=args.length:=by omega
   rw[e,List.drop_length]at h4
   have h4': ∀x∈args,0≤x∧x<n:=by simpa using h4.symm
   rw[←h4]
   have k1:=PB neg abs den oa (by omega) od (by omega)
   have k2:=Y8 neg abs den;by_cases h9:kind=9
   ·simp -implicitDefEqProofs[jJ,-qA,-qB,hk,h9];refine Ac k1 ?_;cases ratOk neg abs den<;>simp -implicitDefEqProofs[jJ,-qA,-qB]<;>exact h4'
   ·simp -implicitDefEqProofs[jJ,-qA,-qB,hk,h9];refine Ac k2 ?_;cases noRat neg abs den<;>simp -implicitDefEqProofs[jJ,-qA,-qB]<;>exact h4'
 ·simp -implicitDefEqProofs[jJ,-qA,-qB,h1,h2]
theorem jbB(f:Fct)(hf:f.Mild)(n:Int):CallsF Tryz.prog 38 [.agg f.ds,.c (.int .i64 n)] (.u (.c (.d (.int .i64 (wrong f n))))):=by
 refine cO Tryz.func38 rfl ?_;obtain⟨kind,args,neg,abs,den⟩:=f;obtain⟨la,ld,oa,od,ln⟩:=hf;simp only at la ld oa od ln;simp only[Fct.ds,wrong];simp -implicitDefEqProofs[jJ,-qA,-qB];refine Ac (It kind) ?_
 have ka:=It kind;generalize arity kind=ar at*;by_cases h1:ar=0
 ·simp -implicitDefEqProofs[jJ,-qA,-qB,h1]
 simp -implicitDefEqProofs[jJ,-qA,-qB,h1];refine AA (Ah [0,1,3,0,8,24,63]) [.any [] [] (Aq [[2],[11],[12],[2],[14],[15]]),.one] (by rfl) ?_
 simp -implicitDefEqProofs[jJ,-qA,-qB];refine Ae ka ?_;by_cases h2:args.length=ar
 ·simp -implicitDefEqProofs[jJ,-qA,-qB,h1,h2];refine AV (fun i:Nat=>⟨[(21,vI .i64 i),(20,vI .i64 (ar:Nat)),(19,vC (.d (intsD args))),(2,vC (.ptr 2 0)),(1,vI .i64 n)],[(2,.box [.d (.int .i64 kind),.d (intsD args),.d (.bool neg),.d (Ad abs),.d (Ad den)])]⟩) (fun i=>i≤args.length∧(args.drop i).any (fun a=>decide (a<0)||decide (n≤a))=args.any (fun a=>decide (a<0)||decide (n≤a))) (fun i=>args.length - i) 0 (by simp) ⟨by omega,rfl⟩ ?_
  rintro i ⟨h3,h4⟩
  by_cases h:i<args.length
  ·have e:=Lq (p:=fun a=>decide (a<0)||decide (n≤a)) h
   have hk:i<ar:=by omega
   rw[e]at h4
   by_cases h5:args[i]<0
   ·simp -implicitDefEqProofs[jJ,-qA,-qB,h,hk,h5,i64];intro hh;have:=hh _ (AZ h);omega
   ·by_cases h6:n≤args[i]
    ·simp -implicitDefEqProofs[jJ,-qA,-qB,h,hk,h5,h6,i64];intro hh;have:=hh _ (AZ h);omega
    ·simp -implicitDefEqProofs[jJ,-qA,-qB,h,hk,h5,h6,i64];simp only[decide_eq_false h5,decide_eq_false h6,Bool.false_or]at h4;exact⟨by omega,⟨by omega,h4⟩,by omega⟩
  ·have hk: ¬i<ar:=by omega
   have e:i=args.length:=by omega
   rw[e,List.drop_length]at h4
   have h4': ∀x∈args,0≤x∧x<n:=by simpa using h4.symm
   rw[←h4]
   have k1:=jfl neg abs den oa (by omega) od (by omega)
   have k2:=SB neg abs den;by_cases h9:kind=9
   ·simp -implicitDefEqProofs[jJ,-qA,-qB,hk,h9];refine Ac k1 ?_;cases ratOk neg abs den<;>simp -implicitDefEqProofs[jJ,-qA,-qB]<;>exact h4'
   ·simp -implicitDefEqProofs[jJ,-qA,-qB,hk,h9];refine Ac k2 ?_;cases noRat neg abs den<;>simp -implicitDefEqProofs[jJ,-qA,-qB]<;>exact h4'
 ·simp -implicitDefEqProofs[jJ,-qA,-qB,h1,h2]
end Go.Va
namespace Go.Va
open Go.Proofs Go.ChangeShapes Go.WideShapes Go.ChangeAt Go.RowKit
section
variable {H:Type} {enc:TypeId×Value→H} {w:World} {base:Nat} {sp:Nat→Bool} {hd:Bool}
abbrev Z0:Addr→Prop:=fun _=>False
theorem Uk{e:D→Prop}{a:Addr}{len cap:Nat}{zs:List Int}{k:IntKind}(hl:len≤cap)(hm:cap≤maxLen)(hz:len≤zs.length)(hc: ∀i,i<zs.length→w.cell? (a.add i)=some (.int k (zs.getD i 0))):
  RepD w Z0 (.slice len ((zs.take len).map (D.int k))) (.slice (some a) len cap):=by
 have key: ∀(j:Nat) (x:D),((zs.take len).map (D.int k))[j]? =some x→j<len∧x= .int k (zs.getD j 0):=fun j x hj=>by
  rw[Bf,List.getElem?_take]at hj
  by_cases h:j<len
  ·rw[if_pos h,AD (by omega)]at hj
   refine⟨h,?_⟩
   rw[AL,AD (by omega)]
   exact(Bi hj).symm
  ·rw[if_neg h]at hj
   cases hj
 have hspot:0<len→a.spot=none:=fun h=>by
  have:=hc 0 (by omega)
  unfold Addr.add at this;rw[if_pos rfl]at this;unfold World.cell? at this;split at this
  ·split at this
   ·cases this
   ·rename_i hn
    simpa using hn
  ·cases this
 refine .slice len _ a cap (fun j=> .int k (zs.getD j 0)) (fun hne=> ?_) hl hm (fun j x hj=> ?_) (fun j x hj h=>h) (fun j x hj=> ?_)
 ·obtain⟨x,hx⟩:=List.exists_mem_of_ne_nil _ hne
  obtain⟨j,hj⟩:=List.getElem?_of_mem hx
  have:=(key j x hj).1
  exact hspot (by omega)
 ·have hk:=key j x hj;have h1:=hc j (by omega)
  have h2:=hspot (by omega)
  have:a.add j=⟨a.block,a.off+j,none⟩:=by
   unfold Addr.add;split
   ·rename_i h0
    subst h0;obtain⟨b,o,s⟩:=a;simp only at h2;subst h2;rfl
   ·rfl
  rw[←this]
  exact h1
 ·rw[(key j x hj).2]
  exact .int _ _
theorem Rs{fuel:Nat}{cs:List Value}{x:DataW H×List MemPlace}(h:DataW.trod enc Tryz.prog w base sp hd fuel 40 cs=some x): ∃(l:List Int) (v:Value),cs=[v]∧RepD w Z0 (intsD l) v:=by
 rcases open_ints (k:= .i64) Tryz.underlying40 Tryz.underlying3 (by kernel_rfl) h with⟨rfl,_⟩|⟨a,len,cap,zs,rfl,_,h1,h2,h3,_,h4,_⟩
 ·exact⟨[],_,rfl,.snil⟩
 ·have hz:len≤zs.length:=by rw[h3];split<;>omega
  refine⟨zs.take len,_,rfl,?_⟩
  have:=Uk (e:=fun _=>True) h1 h2 hz h4
  have e:(intsD (zs.take len))= .slice len ((zs.take len).map (D.int .i64)):=by
   show D.slice _ _=_
   rw[A8,Bs hz]
   rfl
  rw[e]
  exact this
structure InFact (f:Fct):Prop where
 oa:Ok f.abs
 od:Ok f.den
theorem Tb{P:Program}(hl:laidOutB P=true){W W':World}(hb:Below W.heap.size W W'): ∀{ts:List TypeId} {vs:List Value} {ds:List (DataW H)} {ps:List MemPlace},
  (∀t∈ts,P.readableRec t=true∧t<P.types.size)→DataW.TrodAll enc P W 0 (fun _=>true) true ts vs ds ps→(∀x∈ps,x.block<W.heap.size)→DataW.TrodAll enc P W' 0 (fun b=>decide (b<W.heap.size)) true ts vs ds ps
 |[],vs,ds,ps,_,h,_=>by
  obtain⟨rfl,rfl,rfl⟩:=trodAll_nil h
  rfl
 |t::ts,vs,ds,ps,ht,h,hlt=>by
  obtain⟨v,vs',d,ds',p,q,rfl,rfl,rfl,h1,h2⟩:=trodAll_cons h
  have:=ht t (by simp)
  exact trodAll_cons_mk (Below.trod hl this.1 this.2 h1 hb (fun x hx=>hlt x (by simp[hx]))) (Tb hl hb (fun t' h'=>ht t' (by simp[h'])) h2 (fun x hx=>hlt x (by simp[hx])))
end
theorem WY:laidOutB Tryz.prog=true:=by kernel_rfl
theorem jbF:ownKnob Tryz.prog.godebug=none:=by kernel_rfl
theorem Wv{f:FuncId}{xs:List A}(hc:CallsF Tryz.prog f xs (.u (.c (.d (.bool true))))){W:World}{vals:List Value}(hv:RepL (A.rep W Z0) xs vals):
  Calls Tryz.prog f vals.toArray W fun e W'=>e= .returned (.bool true)∧Below W.heap.size W W':=
 (hc.2 W Z0 vals (fun _ h=>h.elim) hv).mono fun e W' ⟨v,h1,h2,h3⟩=>by
  obtain⟨_,o,_,h4⟩:=h3
  have h5:RepD W' (Ar (B3 0 [] o) Z0) (.bool true) v:=(h4 0).1;cases h5;exact⟨h1,h2.toBelow⟩
end Go.Va
