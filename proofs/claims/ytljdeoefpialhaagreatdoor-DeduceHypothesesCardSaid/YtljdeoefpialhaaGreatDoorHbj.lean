/- a part of the proof -/
import Derived.Test.YtljdeoefpialhaaGreatDoorHbh
import Derived.Test.YtljdeoefpialhaaGreatDoorHbi
import Derived.Test.YtljdeoefpialhaaGreatDoorHbe
import Derived.Test.YtljdeoefpialhaaGreatDoorHbf
set_option linter.all false
set_option maxHeartbeats 4000000
set_option maxRecDepth 100000
namespace Go.Va
open Int renaming natCast_add → qA, natCast_mul → qB, natCast_emod → qC, natCast_ediv → qD, natCast_pow → qE
open List renaming reduceReplicate → qF
open Go.Proofs
def GQ:List (List Nat):=(Ah [0,0,3,7])
@[simp]def Hs:List Seg:=[.any [] [] (Aq [[7],[]]),.one,.one]
theorem PJ:CallsF Tryz.prog 156 [.c (.int .i64 (-1))] (.u (.agg [.d (.bool true),.d (Ad [1])])):=by
 have k1:=IA 1 (by omega)
 have k2:=Hi true 1;simp only[Ea]at k1 k2;refine cO Tryz.func156 rfl ?_;simp -implicitDefEqProofs[jJ,-qA,-qB]
 (first|refine Ac k1 ?_|refine Ae k1 ?_)
 simp -implicitDefEqProofs[jJ,-qA,-qB]
 (first|refine Ac k2 ?_|refine Ae k2 ?_)
 simp -implicitDefEqProofs[jJ,-qA,-qB,AU,sg,Ea]
theorem jiJ:CallsF Tryz.prog 84 [.c (.int .i64 (-1))] (.u (.agg (By (-1)))):=by
 show CallsF _ _ _ (.u (.agg [.d (.bool true),.d (Ad [1]),.d (Ad [1])]))
 refine cO Tryz.func84 rfl ?_;simp -implicitDefEqProofs[jJ,-qA,-qB]
 (first|refine Ac PJ ?_|refine Ae PJ ?_)
 simp -implicitDefEqProofs[jJ,-qA,-qB]
 (first|refine Ac Ir ?_|refine Ae Ir ?_)
 simp -implicitDefEqProofs[jJ,-qA,-qB]
theorem Uj:CallsF Tryz.prog 47 [.c (.int .i64 (-1))] (.u (.agg [.d (.bool true),.d (Ad [1])])):=by
 have k0:=C6 0 (by omega)
 have k1:=C6 1 (by omega)
 have k2:=R9 (limbs 0) (limbs 1) (Aw _) (by decide) (Aw _) (by decide)
 have k3:=E6 true (limbs 1) (Aw _) (by decide)
 rw[Az]at k3
 rw[Az,Az,Nat.zero_add]at k2
 simp only[Ea,Cm]at k0 k1 k2 k3;refine cO Tryz.func47 rfl ?_;simp -implicitDefEqProofs[jJ,-qA,-qB]
 (first|refine Ac k0 ?_|refine Ae k0 ?_)
 simp -implicitDefEqProofs[jJ,-qA,-qB]
 (first|refine Ac k1 ?_|refine Ae k1 ?_)
 simp -implicitDefEqProofs[jJ,-qA,-qB]
 (first|refine Ac k2 ?_|refine Ae k2 ?_)
 simp -implicitDefEqProofs[jJ,-qA,-qB]
 (first|refine Ac k3 ?_|refine Ae k3 ?_)
 simp -implicitDefEqProofs[jJ,-qA,-qB,AU,sg,Ea]
theorem jh4:CallsF Tryz.prog 48 [.c (.int .i64 (-1))] (.u (.agg (By (-1)))):=by
 have k1:=C6 1 (by omega)
 have k3:=Ix true 1 1 (by decide) (by decide) (by decide) (by decide)
 simp only[Ea,sg]at k1 k3
 show CallsF _ _ _ (.u (.agg [.d (.bool true),.d (Ad [1]),.d (Ad [1])]))
 refine cO Tryz.func48 rfl ?_;simp -implicitDefEqProofs[jJ,-qA,-qB]
 (first|refine Ac Uj ?_|refine Ae Uj ?_)
 simp -implicitDefEqProofs[jJ,-qA,-qB]
 (first|refine Ac k1 ?_|refine Ae k1 ?_)
 simp -implicitDefEqProofs[jJ,-qA,-qB]
 (first|refine Ac k3 ?_|refine Ae k3 ?_)
 simp -implicitDefEqProofs[jJ,-qA,-qB]
theorem jaP:CallsF Tryz.prog 21 [.c (.int .i64 1),.c (.int .i64 2)] (.u (.agg (By (mkRat 1 2)))):=jfv 1 2 (by decide) (by decide) (by decide) (by decide)
theorem jif:CallsF Tryz.prog 48 [.c (.int .i64 2)] (.u (.agg (By 2))):=Ic 2 (by decide)
theorem Zg:CallsF Tryz.prog 48 [.c (.int .i64 1)] (.u (.agg (By 1))):=Ic 1 (by decide)
theorem jfj(x a b:Int){q:Rat}(hq:Bq q 2):CallsF Tryz.prog 31 [.c (.int .i64 x),.c (.int .i64 a),.c (.int .i64 b),.agg (Br q)] (.u (.c (.d (AQ (divF x a b q))))):=by
 obtain⟨b1,b2,b3,b4⟩:=P1
 have h1:=jbK;have h2:=Wc;have h3:=jiJ;have h4:=jdP;have e1:=Lr hq b1 (by omega)
 have e2:=Lr hq b2 (by omega)
 have e3:=Lr hq b4 (by omega)
 have s:=jkj b3 hq (by omega)
 have l1:=NT a x a b hq (by omega)
 have l2:=NT b x a b (b3.sub hq) (by omega)
 have m1:=M8 x a b;have m2:=M8 b a x;have m3:=M8 a b x;have c1:=Gw x a b;unfold divF;generalize (1:Rat) - q=p at*;generalize mkRat 1 2=z1 at*;generalize (-1:Rat)=z3 at*;generalize (2:Rat)=z2 at*;generalize (1:Rat)=z4 at*;unfold Br By at*;simp only[rf,fc]at*;generalize limbs (p*p).num.natAbs=pa at*;generalize limbs (p*p).den=pb at*;generalize decide ((p*p).num<0)=pc at*;generalize limbs (q*q).num.natAbs=qa at*;generalize limbs (q*q).den=qb at*;generalize decide ((q*q).num<0)=qc at*;clear hq b1 b2 b3 b4;refine cO Tryz.func31 rfl ?_;simp -implicitDefEqProofs[jJ,-qA,-qB,-qF];refine AA GQ Hs (by rfl) ?_
 simp -implicitDefEqProofs[jJ,-qA,-qB,-qF]
 (first|refine Ac h1 ?_|refine Ae h1 ?_)
 simp -implicitDefEqProofs[jJ,-qA,-qB,-qF]
 (first|refine Ac e1 ?_|refine Ae e1 ?_)
 by_cases t1:q=z1
 ·simp -implicitDefEqProofs[jJ,-qA,-qB,-qF,t1]
  (first|refine Ac m1 ?_|refine Ae m1 ?_)
  simp -implicitDefEqProofs[jJ,-qA,-qB,-qF,Fct.res,Bc,Bd];rfl
 simp -implicitDefEqProofs[jJ,-qA,-qB,-qF,t1];refine AA GQ Hs (by rfl) ?_
 simp -implicitDefEqProofs[jJ,-qA,-qB,-qF]
 (first|refine Ac h2 ?_|refine Ae h2 ?_)
 simp -implicitDefEqProofs[jJ,-qA,-qB,-qF]
 (first|refine Ac e2 ?_|refine Ae e2 ?_)
 by_cases t2:q=z2
 ·simp -implicitDefEqProofs[jJ,-qA,-qB,-qF,t2]
  (first|refine Ac m2 ?_|refine Ae m2 ?_)
  simp -implicitDefEqProofs[jJ,-qA,-qB,-qF,Fct.res,Bc,Bd];rfl
 simp -implicitDefEqProofs[jJ,-qA,-qB,-qF,t2];refine AA GQ Hs (by rfl) ?_
 simp -implicitDefEqProofs[jJ,-qA,-qB,-qF]
 (first|refine Ac h3 ?_|refine Ae h3 ?_)
 simp -implicitDefEqProofs[jJ,-qA,-qB,-qF]
 (first|refine Ac e3 ?_|refine Ae e3 ?_)
 by_cases t3:q=z3
 ·simp -implicitDefEqProofs[jJ,-qA,-qB,-qF,t3]
  (first|refine Ac m3 ?_|refine Ae m3 ?_)
  simp -implicitDefEqProofs[jJ,-qA,-qB,-qF,Fct.res,Bc,Bd];rfl
 simp -implicitDefEqProofs[jJ,-qA,-qB,-qF,t3];refine AA (Ah [0,0,3,0,15]) [.any [] [9] [⟨0,[],[9],[9],[]⟩,⟨0,[7],[9],[9],[]⟩,⟨0,[37,38],[9],[9],[]⟩,⟨1,[],[],[],[]⟩],.one] (by rfl) ?_
 simp -implicitDefEqProofs[jJ,-qA,-qB,-qF]
 (first|refine Ac h4 ?_|refine Ae h4 ?_)
 simp -implicitDefEqProofs[jJ,-qA,-qB,-qF]
 (first|refine Ac s ?_|refine Ae s ?_)
 simp -implicitDefEqProofs[jJ,-qA,-qB,-qF];refine AA (Ah [0,0,0,7,0,0,0,0,0,511,0,0,0,0,0,32767,65535,131071]) [.any [] [] (Aq [[0],[1],[2],[40,41,42],[1],[0],[1],[2],[7],[44,45,46,47,48],[2],[0],[1],[2],[9]]),.one,.one,.one] (by rfl) ?_
 simp -implicitDefEqProofs[jJ,-qA,-qB,-qF]
 (first|refine Ac c1 ?_|refine Ae c1 ?_)
 simp -implicitDefEqProofs[jJ,-qA,-qB,-qF,Fct.res]
 (first|refine Ac l1 ?_|refine Ae l1 ?_)
 simp -implicitDefEqProofs[jJ,-qA,-qB,-qF,Fct.res]
 (first|refine Ac l2 ?_|refine Ae l2 ?_)
 simp -implicitDefEqProofs[jJ,-qA,-qB,-qF,Fct.res];rfl
theorem SW(a b c d:Int){q:Rat}{k:Nat}(hq:Bq q k)(hk:k≤400):CallsF Tryz.prog 100 [.c (.int .i64 a),.c (.int .i64 b),.c (.int .i64 c),.c (.int .i64 d),.agg (Br q)] (rf [a,b,c,d] (q*q)).res:=by
 have k1:=Vb hq hq hk;have k2:=BE 9 [a,b,c,d] (by simp)
 unfold By Br at*;unfold rf;generalize q*q=p at*;clear hq;refine cO Tryz.func100 rfl ?_;simp -implicitDefEqProofs[jJ,-qA,-qB,Bd]
 (first|refine Ac k2 ?_|refine Ae k2 ?_)
 simp -implicitDefEqProofs[jJ,-qA,-qB,Fct.res]
 (first|refine Ac k1 ?_|refine Ae k1 ?_)
 simp -implicitDefEqProofs[jJ,-qA,-qB,Fct.res]
theorem jgq(x a b:Int){q:Rat}(hq:Bq q 2):CallsF Tryz.prog 39 [.c (.int .i64 x),.c (.int .i64 a),.c (.int .i64 b),.agg (Br q)] (.u (.c (.d (AQ (divF x a b q))))):=by
 obtain⟨b1,b2,b3,b4⟩:=P1
 have h1:=jaP;have h2:=jif;have h3:=jh4;have h4:=Zg;have e1:=Mb hq b1 (by omega)
 have e2:=Mb hq b2 (by omega)
 have e3:=Mb hq b4 (by omega)
 have s:=Vq b3 hq (by omega)
 have l1:=SW a x a b hq (by omega)
 have l2:=SW b x a b (b3.sub hq) (by omega)
 have m1:=BE 5 [x,a,b] (by simp)
 have m2:=BE 5 [b,a,x] (by simp)
 have m3:=BE 5 [a,b,x] (by simp)
 have c1:=BE 1 [x,a,b] (by simp)
 unfold divF;generalize (1:Rat) - q=p at*;generalize mkRat 1 2=z1 at*;generalize (-1:Rat)=z3 at*;generalize (2:Rat)=z2 at*;generalize (1:Rat)=z4 at*;unfold Br By at*;simp only[rf,fc]at*;generalize limbs (p*p).num.natAbs=pa at*;generalize limbs (p*p).den=pb at*;generalize decide ((p*p).num<0)=pc at*;generalize limbs (q*q).num.natAbs=qa at*;generalize limbs (q*q).den=qb at*;generalize decide ((q*q).num<0)=qc at*;clear hq b1 b2 b3 b4;refine cO Tryz.func39 rfl ?_;simp -implicitDefEqProofs[jJ,-qA,-qB,-qF];refine AA GQ Hs (by rfl) ?_
 simp -implicitDefEqProofs[jJ,-qA,-qB,-qF]
 (first|refine Ac h1 ?_|refine Ae h1 ?_)
 simp -implicitDefEqProofs[jJ,-qA,-qB,-qF]
 (first|refine Ac e1 ?_|refine Ae e1 ?_)
 by_cases t1:q=z1
 ·simp -implicitDefEqProofs[jJ,-qA,-qB,-qF,t1,Bc]
  (first|refine Ac m1 ?_|refine Ae m1 ?_)
  simp -implicitDefEqProofs[jJ,-qA,-qB,-qF,Fct.res,Bc,Bd];rfl
 simp -implicitDefEqProofs[jJ,-qA,-qB,-qF,t1];refine AA GQ Hs (by rfl) ?_
 simp -implicitDefEqProofs[jJ,-qA,-qB,-qF]
 (first|refine Ac h2 ?_|refine Ae h2 ?_)
 simp -implicitDefEqProofs[jJ,-qA,-qB,-qF]
 (first|refine Ac e2 ?_|refine Ae e2 ?_)
 by_cases t2:q=z2
 ·simp -implicitDefEqProofs[jJ,-qA,-qB,-qF,t2,Bc]
  (first|refine Ac m2 ?_|refine Ae m2 ?_)
  simp -implicitDefEqProofs[jJ,-qA,-qB,-qF,Fct.res,Bc,Bd];rfl
 simp -implicitDefEqProofs[jJ,-qA,-qB,-qF,t2];refine AA GQ Hs (by rfl) ?_
 simp -implicitDefEqProofs[jJ,-qA,-qB,-qF]
 (first|refine Ac h3 ?_|refine Ae h3 ?_)
 simp -implicitDefEqProofs[jJ,-qA,-qB,-qF]
 (first|refine Ac e3 ?_|refine Ae e3 ?_)
 by_cases t3:q=z3
 ·simp -implicitDefEqProofs[jJ,-qA,-qB,-qF,t3,Bc]
  (first|refine Ac m3 ?_|refine Ae m3 ?_)
  simp -implicitDefEqProofs[jJ,-qA,-qB,-qF,Fct.res,Bc,Bd];rfl
 simp -implicitDefEqProofs[jJ,-qA,-qB,-qF,t3];refine AA (Ah [0,0,0,7,15,0,0,0,0,0,1023,0,0,0,0,2047,0,100351,262143,524287,1048575]) [.any [] [42] (AG [42] [[0],[1],[2]]++[⟨4,[39,40,41],[],[],[]⟩]++[⟨0,[42],[],[],[]⟩]++AG [42] [[1],[0],[1],[2],[7]]++[⟨0,[44,45,46,47,48],[],[],[]⟩]++AG [42] [[2],[0],[1],[2]]++[⟨0,[],[],[],[]⟩]++[⟨0,[7],[],[42],[]⟩]++[⟨0,[54,55],[],[],[]⟩]),.one,.one,.one] (by rfl) ?_
 simp -implicitDefEqProofs[jJ,-qA,-qB,-qF,Bc]
 (first|refine Ac c1 ?_|refine Ae c1 ?_)
 simp -implicitDefEqProofs[jJ,-qA,-qB,-qF,Fct.res]
 (first|refine Ac l1 ?_|refine Ae l1 ?_)
 simp -implicitDefEqProofs[jJ,-qA,-qB,-qF,Fct.res]
 (first|refine Ac h4 ?_|refine Ae h4 ?_)
 simp -implicitDefEqProofs[jJ,-qA,-qB,-qF]
 (first|refine Ac s ?_|refine Ae s ?_)
 simp -implicitDefEqProofs[jJ,-qA,-qB,-qF]
 (first|refine Ac l2 ?_|refine Ae l2 ?_)
 simp -implicitDefEqProofs[jJ,-qA,-qB,-qF,Fct.res];rfl
theorem Ud{n:Bool}{a d:List Nat}(ha:Ok a)(hd:Ok d)(h:ratOk n a d=true):[.bool n,Ad a,Ad d]=Br (mkRat (toZ n (val a)) (val d)):=by
 obtain⟨h1,h2,h3,h4,h5⟩:=Cz h ha hd
 have e1:(mkRat (toZ n (val a)) (val d)).num=toZ n (val a):=by
  rw[Rat.num_mkRat,if_neg h3]
  have:(toZ n (val a)).natAbs=val a:=by unfold toZ;cases n<;>simp
  rw[this,Nat.gcd_comm,h4]
  simp
 have e2:(mkRat (toZ n (val a)) (val d)).den=val d:=by
  rw[Rat.den_mkRat,if_neg h3]
  have:(toZ n (val a)).natAbs=val a:=by unfold toZ;cases n<;>simp
  rw[this,Nat.gcd_comm,h4]
  simp
 have e3:(toZ n (val a)).natAbs=val a:=by unfold toZ;cases n<;>simp
 have e4:decide (toZ n (val a)<0)=n:=by
  unfold toZ;cases n
  ·simp
  ·have:=h5 rfl
   simp only[if_true,decide_eq_true_eq];omega
 unfold Br;rw[e1,e2,e3,e4,←h1,←h2]
theorem NI{n:Bool}{a d:List Nat}{k:Nat}(ha:Ok a)(hd:Ok d)(h:ratOk n a d=true)(la:a.length≤k)(ld:d.length≤k):Bq (mkRat (toZ n (val a)) (val d)) k:=by
 obtain⟨h1,h2,h3,h4,h5⟩:=Cz h ha hd
 have e3:(toZ n (val a)).natAbs=val a:=by unfold toZ;cases n<;>simp
 have p1:=Nat.lt_of_lt_of_le (Bz _ ha) (Nat.pow_le_pow_right (by decide:0<65536) la)
 have p2:=Nat.lt_of_lt_of_le (Bz _ hd) (Nat.pow_le_pow_right (by decide:0<65536) ld)
 constructor
 ·rw[Rat.num_mkRat,if_neg h3,e3,Nat.gcd_comm,h4]
  simpa [e3]using p1
 ·rw[Rat.den_mkRat,if_neg h3,e3,Nat.gcd_comm,h4]
  simpa using p2
theorem Fj{α:Type}{l:List α}(h:l.length=2): ∃a b,l=[a,b]:=by
 match l,h with
 |[a,b],_=>exact⟨a,b,rfl⟩
theorem DA{α:Type}{l:List α}(h:l.length=3): ∃a b c,l=[a,b,c]:=by
 match l,h with
 |[a,b,c],_=>exact⟨a,b,c,rfl⟩
theorem Hg{α:Type}{l:List α}(h:l.length=4): ∃a b c d,l=[a,b,c,d]:=by
 match l,h with
 |[a,b,c,d],_=>exact⟨a,b,c,d,rfl⟩
theorem jgy(nm:ByteArray)(a b x:Int){q:Rat}(hq:Bq q 2):CallsF Tryz.prog 14 [.agg ([.int .i64 2,.str nm,intsD [a,b]]++Br q),.c (.int .i64 x)] (.u (.c (.d (AQ (divF x a b q))))):=by
 have k:=jfj x a b hq;generalize divF x a b q=l at*;unfold Br at*;simp only[List.cons_append,List.nil_append];clear hq;refine cO Tryz.func14 rfl ?_;simp -implicitDefEqProofs[jJ,-qA,-qB,-qF];refine AA (Ah [0,0,2,6,0,16,48,0,128,511,1023]) [.any [] [] (Aq [[1],[5],[16],[17],[5],[19],[20],[2],[22]]),.one,.one] (by rfl) ?_
 simp -implicitDefEqProofs[jJ,-qA,-qB,-qF]
 (first|refine Ac k ?_|refine Ae k ?_)
 simp -implicitDefEqProofs[jJ,-qA,-qB,-qF]
theorem ZC(nm:ByteArray)(x:Int)(ng:Bool)(ab dn:List Nat):CallsF Tryz.prog 14 [.agg [.int .i64 1,.str nm,intsD [],.bool ng,Ad ab,Ad dn],.c (.int .i64 x)] (.u (.c (.d (AQ [])))):=by
 refine cO Tryz.func14 rfl ?_;simp -implicitDefEqProofs[jJ,-qA,-qB,-qF];rfl
theorem jcK(s:Stp)(x:Int)(h0: ¬stepN s.kind<0)(hn:(s.args.length:Int)=stepN s.kind)(ho:Va.Ok s.abs∧Va.Ok s.den)(hr:s.kind=2→ratOk s.neg s.abs s.den=true∧s.abs.length≤2∧s.den.length≤2):
  CallsF Tryz.prog 14 [.agg s.ds,.c (.int .i64 x)] (.u (.c (.d (AQ (stpF s.kind x s.args s.q))))):=by
 obtain⟨kind,name,args,neg,abs,den⟩:=s
 simp only[Stp.ds,Stp.q]at*;rcases Jg kind with h|h|h|h|h|h|h|h|h|h|h|h|h|h|h
 ·subst h;have hl:args.length=0:=by have:stepN 1=0:=rfl;omega
  rw[jzv]at hl
  subst hl;exact ZC name x neg abs den
 ·subst h;have hl:args.length=2:=by have:stepN 2=2:=rfl;omega
  obtain⟨a,b,rfl⟩:=Fj hl
  obtain⟨r1,r2,r3⟩:=hr rfl
  have:=jgy name a b x (NI ho.1 ho.2 r1 r2 r3)
  rw[←Ud ho.1 ho.2 r1]at this
  exact this
 ·subst h;have hl:args.length=3:=by have:stepN 3=3:=rfl;omega
  obtain⟨a,b,c,rfl⟩:=DA hl
  exact jjq name a b c x neg abs den
 ·subst h;have hl:args.length=3:=by have:stepN 4=3:=rfl;omega
  obtain⟨a,b,c,rfl⟩:=DA hl
  exact ZL name a b c x neg abs den
 ·subst h;have hl:args.length=2:=by have:stepN 5=2:=rfl;omega
  obtain⟨a,b,rfl⟩:=Fj hl
  exact jc5 name a b x neg abs den
 ·subst h;have hl:args.length=2:=by have:stepN 6=2:=rfl;omega
  obtain⟨a,b,rfl⟩:=Fj hl
  exact X0 name a b x neg abs den
 ·subst h;have hl:args.length=3:=by have:stepN 7=3:=rfl;omega
  obtain⟨a,b,c,rfl⟩:=DA hl
  exact jjf name a b c x neg abs den
 ·subst h;have hl:args.length=3:=by have:stepN 8=3:=rfl;omega
  obtain⟨a,b,c,rfl⟩:=DA hl
  exact XP name a b c x neg abs den
 ·subst h;have hl:args.length=4:=by have:stepN 9=4:=rfl;omega
  obtain⟨a,b,c,d,rfl⟩:=Hg hl
  exact jeD name a b c d x neg abs den
 ·subst h;have hl:args.length=3:=by have:stepN 10=3:=rfl;omega
  obtain⟨a,b,c,rfl⟩:=DA hl
  exact jdc name a b c x neg abs den
 ·subst h;have hl:args.length=3:=by have:stepN 11=3:=rfl;omega
  obtain⟨a,b,c,rfl⟩:=DA hl
  exact Wz name a b c x neg abs den
 ·subst h;have hl:args.length=4:=by have:stepN 12=4:=rfl;omega
  obtain⟨a,b,c,d,rfl⟩:=Hg hl
  exact jd8 name a b c d x neg abs den
 ·subst h;have hl:args.length=4:=by have:stepN 13=4:=rfl;omega
  obtain⟨a,b,c,d,rfl⟩:=Hg hl
  exact jjB name a b c d x neg abs den
 ·subst h;have hl:args.length=2:=by have:stepN 14=2:=rfl;omega
  obtain⟨a,b,rfl⟩:=Fj hl
  exact WH name a b x neg abs den
 ·obtain⟨e1,e2,e3,e4,e5,e6,e7,e8,e9,e10,e11,e12,e13,e14⟩:=h
  have:stepN kind= -1:=by unfold stepN;simp[e1,e2,e3,e4,e5,e6,e7,e8,e9,e10,e11,e12,e13,e14]
  omega
theorem VJ(nm:ByteArray)(a b x:Int){q:Rat}(hq:Bq q 2):CallsF Tryz.prog 17 [.agg ([.int .i64 2,.str nm,intsD [a,b]]++Br q),.c (.int .i64 x)] (.u (.c (.d (AQ (divF x a b q))))):=by
 have k:=jgq x a b hq;generalize divF x a b q=l at*;unfold Br at*;simp only[List.cons_append,List.nil_append];clear hq;refine cO Tryz.func17 rfl ?_;simp -implicitDefEqProofs[jJ,-qA,-qB,-qF];refine AA (Ah [0,0,2,6,0,16,48,0,128,511,1023]) [.any [] [] (Aq [[1],[5],[13],[14],[5],[16],[17],[2],[19]]),.one,.one] (by rfl) ?_
 simp -implicitDefEqProofs[jJ,-qA,-qB,-qF]
 (first|refine Ac k ?_|refine Ae k ?_)
 simp -implicitDefEqProofs[jJ,-qA,-qB,-qF]
theorem jiw(nm:ByteArray)(x:Int)(ng:Bool)(ab dn:List Nat):CallsF Tryz.prog 17 [.agg [.int .i64 1,.str nm,intsD [],.bool ng,Ad ab,Ad dn],.c (.int .i64 x)] (.u (.c (.d (AQ [])))):=by
 refine cO Tryz.func17 rfl ?_;simp -implicitDefEqProofs[jJ,-qA,-qB,-qF];rfl
theorem jdB(s:Stp)(x:Int)(h0: ¬stepN s.kind<0)(hn:(s.args.length:Int)=stepN s.kind)(ho:Va.Ok s.abs∧Va.Ok s.den)(hr:s.kind=2→ratOk s.neg s.abs s.den=true∧s.abs.length≤2∧s.den.length≤2):
  CallsF Tryz.prog 17 [.agg s.ds,.c (.int .i64 x)] (.u (.c (.d (AQ (stpF s.kind x s.args s.q))))):=by
 obtain⟨kind,name,args,neg,abs,den⟩:=s
 simp only[Stp.ds,Stp.q]at*;rcases Jg kind with h|h|h|h|h|h|h|h|h|h|h|h|h|h|h
 ·subst h;have hl:args.length=0:=by have:stepN 1=0:=rfl;omega
  rw[jzv]at hl
  subst hl;exact jiw name x neg abs den
 ·subst h;have hl:args.length=2:=by have:stepN 2=2:=rfl;omega
  obtain⟨a,b,rfl⟩:=Fj hl
  obtain⟨r1,r2,r3⟩:=hr rfl
  have:=VJ name a b x (NI ho.1 ho.2 r1 r2 r3)
  rw[←Ud ho.1 ho.2 r1]at this
  exact this
 ·subst h;have hl:args.length=3:=by have:stepN 3=3:=rfl;omega
  obtain⟨a,b,c,rfl⟩:=DA hl
  exact ZE name a b c x neg abs den
 ·subst h;have hl:args.length=3:=by have:stepN 4=3:=rfl;omega
  obtain⟨a,b,c,rfl⟩:=DA hl
  exact jfW name a b c x neg abs den
 ·subst h;have hl:args.length=2:=by have:stepN 5=2:=rfl;omega
  obtain⟨a,b,rfl⟩:=Fj hl
  exact jcT name a b x neg abs den
 ·subst h;have hl:args.length=2:=by have:stepN 6=2:=rfl;omega
  obtain⟨a,b,rfl⟩:=Fj hl
  exact jb3 name a b x neg abs den
 ·subst h;have hl:args.length=3:=by have:stepN 7=3:=rfl;omega
  obtain⟨a,b,c,rfl⟩:=DA hl
  exact Xa name a b c x neg abs den
 ·subst h;have hl:args.length=3:=by have:stepN 8=3:=rfl;omega
  obtain⟨a,b,c,rfl⟩:=DA hl
  exact jit name a b c x neg abs den
 ·subst h;have hl:args.length=4:=by have:stepN 9=4:=rfl;omega
  obtain⟨a,b,c,d,rfl⟩:=Hg hl
  exact Xh name a b c d x neg abs den
 ·subst h;have hl:args.length=3:=by have:stepN 10=3:=rfl;omega
  obtain⟨a,b,c,rfl⟩:=DA hl
  exact Wg name a b c x neg abs den
 ·subst h;have hl:args.length=3:=by have:stepN 11=3:=rfl;omega
  obtain⟨a,b,c,rfl⟩:=DA hl
  exact jg2 name a b c x neg abs den
 ·subst h;have hl:args.length=4:=by have:stepN 12=4:=rfl;omega
  obtain⟨a,b,c,d,rfl⟩:=Hg hl
  exact jeQ name a b c d x neg abs den
 ·subst h;have hl:args.length=4:=by have:stepN 13=4:=rfl;omega
  obtain⟨a,b,c,d,rfl⟩:=Hg hl
  exact Y3 name a b c d x neg abs den
 ·subst h;have hl:args.length=2:=by have:stepN 14=2:=rfl;omega
  obtain⟨a,b,rfl⟩:=Fj hl
  exact jbp name a b x neg abs den
 ·obtain⟨e1,e2,e3,e4,e5,e6,e7,e8,e9,e10,e11,e12,e13,e14⟩:=h
  have:stepN kind= -1:=by unfold stepN;simp[e1,e2,e3,e4,e5,e6,e7,e8,e9,e10,e11,e12,e13,e14]
  omega
def TZ:List (List Nat):=(Ah [0,0,3,7,15,0,63])
@[simp]def SD:List Seg:=[.any [] [] (Aq [[0],[5],[12,13],[14],[15],[3]]),.one]
def EZ(f:Fct):List D:=[.int .i64 f.kind,intsD f.args,.bool f.neg,Ad f.abs,Ad f.den,.int .i64 0,.slice 0 []]
theorem jeI(f:Fct):(EZ f).length=7:=rfl
def Fz(l:List Fct):D:= .slice l.length (l.flatMap EZ)
@[simp high]theorem XL(l:List Fct):(l.flatMap EZ).length=l.length*7:=Qw jeI l
@[simp]theorem lenC_hds(l:List Fct):lenC (.d (Fz l))=some l.length:=rfl
@[simp]theorem flat_hds(l:List Fct):D.flat (Fz l)=false:=rfl
@[simp]theorem jnM(h:List (Nat×Blk))(i:Int)(l:List Fct):idxSl h 7 i (.d (Fz l))=if 0≤i∧i<l.length then some (.d (.ref ((l.drop i.toNat).flatMap EZ))) else none:=by
 unfold Fz idxSl;simp only[XL,and_true,jdj jeI]
theorem Pz{l:List Fct}{i:Nat}(h:i<l.length):(l.drop i).flatMap EZ= .int .i64 l[i].kind::intsD l[i].args:: .bool l[i].neg::Ad l[i].abs::Ad l[i].den:: .int .i64 0:: .slice 0 []::(l.drop (i+1)).flatMap EZ:=by
 rw[BQ h];rfl
theorem jbf(l:List Fct)(f:Fct)(hl:l.length≤1000000)(ha: ∀x∈l,x.Rt)(hf:f.Rt): ∃n:Int,(n<0↔f∉l)∧CallsF Tryz.prog 43 [.c (Fz l),.agg f.ds] (.u (.c (.d (.int .i64 n)))):=by
 have hcon: ∀i,∀(h:i<l.length),CallsF Tryz.prog 19 [.agg l[i].ds,.agg f.ds] (.u (.c (.d (.bool (decide (l[i]=f)))))):=fun i h=>by
  have k:=PS l[i] f (ha _ (AZ h)).mild hf.mild (ha _ (AZ h)).val hf.val;have e:=Tt (ha _ (AZ h)) hf;rw[decide_eq_decide.2 e]at k;exact k
 have hm:f∈l↔ ∃i,∃h:i<l.length,l[i]=f:=List.mem_iff_getElem
 clear ha hf;obtain⟨n,hn⟩: ∃n:Int,n=if f∈l then (l.idxOf f:Int) else -1:=⟨_,rfl⟩;have hidx: ∀i (h:i<l.length),l[i]=f→(∀j (hj:j<i),l[j]'(by omega)≠f)→n=i:=fun i h he hb=>by
  have hin:f∈l:=hm.2 ⟨i,h,he⟩;rw[if_pos hin]at hn;have h1:l.idxOf f<l.length:=List.idxOf_lt_length_of_mem hin;have h2:l[l.idxOf f]=f:=List.getElem_idxOf h1;rcases Nat.lt_or_ge (l.idxOf f) i with h3|h3
  ·exact absurd h2 (hb _ h3)
  ·rcases Nat.lt_or_ge i (l.idxOf f)with h4|h4
   ·have:=List.not_of_lt_findIdx (p:=(· ==f)) (xs:=l) (i:=i) (by unfold List.idxOf at h4;exact h4)
    exact absurd he (by simpa using this)
   ·omega
 have hno:(∀j (hj:j<l.length),l[j]≠f)→n= -1:=fun hb=>by
  rw[if_neg]at hn
  ·exact hn
  ·intro hin;obtain⟨i,h,e⟩:=hm.1 hin;exact hb i h e
 refine⟨n,?_,?_⟩
 ·rw[hn]
  split
  ·rename_i h;simp only[h,not_true,iff_false];omega
  ·rename_i h;simp[h]
 ·clear hn hm;obtain⟨k,al,ng,ab,dn⟩:=f;simp only[Fct.ds]at hcon ⊢;refine cO Tryz.func43 rfl ?_;simp -implicitDefEqProofs[jJ,-qA,-qB,-qF];refine AV (fun i:Nat=>⟨[(5,vI .i64 i),(3,vC (.ptr 3 0)),(0,vC (.d (Fz l)))],[(3,.box [.d (.int .i64 k),.d (intsD al),.d (.bool ng),.d (Ad ab),.d (Ad dn)])]⟩)
   (fun i=>i≤l.length∧ ∀j (hj:j<l.length),j<i→l[j]≠⟨k,al,ng,ab,dn⟩) (fun i=>l.length - i) 0 (by simp[AW,lk,St.le,vI,vC]) ⟨by omega,fun j hj h=>by omega⟩ ?_
  rintro i ⟨hi,hb⟩
  by_cases h:i<l.length
  ·have g:=Pz h;have kc:=hcon i h;have hix:=fun he=>hidx i h he fun j hj=>hb j (by omega) hj
   have hst: ¬l[i]=⟨k,al,ng,ab,dn⟩→ ∀j (hj:j<l.length),j<i+1→l[j]≠⟨k,al,ng,ab,dn⟩:=fun hne j hj hlt=>by
    rcases Nat.lt_or_ge j i with h1|h1
    ·exact hb j hj h1
    ·have:j=i:=by omega
     subst this;exact hne
   generalize hx:l[i]=x at*;obtain⟨k',al',ng',ab',dn'⟩:=x;simp only at g kc;by_cases he:(⟨k',al',ng',ab',dn'⟩:Fct)=⟨k,al,ng,ab,dn⟩
   ·rw[decide_eq_true he]at kc
    have hn:=hix he;subst hn;simp -implicitDefEqProofs[jJ,-qA,-qB,-qF,h];refine AA TZ SD (by rfl) ?_
    simp -implicitDefEqProofs[jJ,-qA,-qB,-qF,h,g]
    (first|refine Ac kc ?_|refine Ae kc ?_)
    simp -implicitDefEqProofs[jJ,-qA,-qB,-qF]
   ·rw[decide_eq_false he]at kc
    have hst:=hst he;clear hix he;simp -implicitDefEqProofs[jJ,-qA,-qB,-qF,h];refine AA TZ SD (by rfl) ?_
    simp -implicitDefEqProofs[jJ,-qA,-qB,-qF,h,g]
    (first|refine Ac kc ?_|refine Ae kc ?_)
    simp -implicitDefEqProofs[jJ,-qA,-qB,-qF];exact⟨by omega,⟨by omega,hst⟩,by omega⟩
  ·have hi2:i=l.length:=by omega
   subst hi2;have hn:=hno fun j hj=>hb j hj hj
   subst hn;simp -implicitDefEqProofs[jJ,-qA,-qB,-qF]
theorem UI(l:List Fct):D.slice l.length (List.take (l.length*7) (l.flatMap EZ))=Fz l:=by
 unfold Fz;rw[Ba (by rw[XL];omega)]
theorem jjh(fs:List Fct)(hf: ∀f∈fs,f.Rt)(hl:fs.length≤1000000):CallsF Tryz.prog 18 [.c (AQ fs)] (.u (.c (.d (Fz (normL fs))))):=by
 have hfin:normL (fs.take fs.length)=normL fs:=by rw[BM]
 refine cO Tryz.func18 rfl ?_;simp -implicitDefEqProofs[jJ,-qA,-qB,-qF];refine CE [(3,30)] (fun i:Nat=>⟨[(4,vI .i64 i),(3,vC (.sl 3 0 (normL (fs.take i)).length)),(0,vC (.d (AQ fs)))],[(3,.row 7 ((normL (fs.take i)).flatMap EZ) true)]⟩)
  (fun i=>i≤fs.length) (fun i=>fs.length - i) 0 (by simp[AW,lk,St.le,vI,vC,normL]) (by simp) ?_
 rintro i hi
 by_cases h:i<fs.length
 ·have g:=Gg h;have hr:=hf _ (AZ h);have kn:=jjM fs[i] hr.mild;have hn:(normF fs[i]).Rt:=by unfold normF;rw[if_pos hr.ok];exact Nw hr
  have kt:=V8 (normF fs[i]) hn.mild;have hs:=JJ h;unfold G8 at hs;have hlr:=Ji fs hf i hi;have hln:=Iw fs i hi;obtain⟨q,q1,q2⟩:=jbf (normL (fs.take i)) (normF fs[i]) (by omega) hlr hn
  generalize normL (fs.take i)=l at*;generalize hN:normL (fs.take (i+1))=l' at*;generalize normF fs[i]=n at*;generalize fs[i]=f at*;obtain⟨k,al,ng,ab,dn⟩:=f;clear hf hr hn hlr hfin;obtain⟨nk,na,nn,nb,nd⟩:=n;simp only[Fct.ds,Fct.res]at kn kt g q2;have ecut:=UI l;cases t:Gi ⟨nk,na,nn,nb,nd⟩with
  |true=>
   rw[if_pos t]at hs
   rw[t]at kt
   subst hs;simp -implicitDefEqProofs[jJ,-qA,-qB,-qF,h,g]
   (first|refine Ac kn ?_|refine Ae kn ?_)
   simp -implicitDefEqProofs[jJ,-qA,-qB,-qF]
   (first|refine Ac kt ?_|refine Ae kt ?_)
   simp -implicitDefEqProofs[jJ,-qA,-qB,-qF];exact⟨by omega,i+1,⟨⟨rfl,by rw[hN]⟩,by rw[hN]⟩,by omega,by omega⟩
  |false=>
   rw[if_neg (by rw[t];simp)]at hs
   rw[t]at kt
   by_cases m:(⟨nk,na,nn,nb,nd⟩:Fct)∈l
   ·rw[if_pos m]at hs
    subst hs;have hq: ¬q<0:=fun h=>q1.1 h m
    simp -implicitDefEqProofs[jJ,-qA,-qB,-qF,h,g]
    (first|refine Ac kn ?_|refine Ae kn ?_)
    simp -implicitDefEqProofs[jJ,-qA,-qB,-qF]
    (first|refine Ac kt ?_|refine Ae kt ?_)
    simp -implicitDefEqProofs[jJ,-qA,-qB,-qF,ecut]
    (first|refine Ac q2 ?_|refine Ae q2 ?_)
    simp -implicitDefEqProofs[jJ,-qA,-qB,-qF,hq];exact⟨by omega,i+1,⟨⟨rfl,by rw[hN]⟩,by rw[hN]⟩,by omega,by omega⟩
   ·rw[if_neg m]at hs
    have hq:q<0:=q1.2 m;have e4:(l++[Fct.mk nk na nn nb nd]).flatMap EZ=l.flatMap EZ++[.int .i64 nk,intsD na,.bool nn,Ad nb,Ad nd,.int .i64 0,.slice 0 []]:=by rw[List.flatMap_append];rfl
    have e5:(l++[Fct.mk nk na nn nb nd]).length=l.length+1:=by simp
    rw[←hs]at e4 e5
    simp -implicitDefEqProofs[jJ,-qA,-qB,-qF,h,g]
    (first|refine Ac kn ?_|refine Ae kn ?_)
    simp -implicitDefEqProofs[jJ,-qA,-qB,-qF]
    (first|refine Ac kt ?_|refine Ae kt ?_)
    simp -implicitDefEqProofs[jJ,-qA,-qB,-qF,ecut]
    (first|refine Ac q2 ?_|refine Ae q2 ?_)
    simp -implicitDefEqProofs[jJ,-qA,-qB,-qF,hq];exact⟨⟨by omega,by omega⟩,by omega,i+1,⟨⟨rfl,by rw[hN,e5]⟩,by rw[hN,e4]⟩,by omega,by omega⟩
 ·have hi2:i=fs.length:=by omega
  subst hi2;rw[hfin];simp -implicitDefEqProofs[jJ,-qA,-qB,-qF,UI]
end Go.Va
