/- a part of the proof -/
import Derived.Test.YtljdeoefpialhaaGreatDoorHau
import Derived.Test.YtljdeoefpialhaaGreatDoorHav
import Derived.Test.YtljdeoefpialhaaGreatDoorHbf
import Derived.Test.YtljdeoefpialhaaGreatDoorHay
import Derived.Test.YtljdeoefpialhaaGreatDoorHba
set_option linter.all false
set_option maxHeartbeats 4000000
set_option maxRecDepth 100000
namespace Go.Va
open Int renaming natCast_add → qA, natCast_mul → qB, natCast_emod → qC, natCast_ediv → qD, natCast_pow → qE
open List renaming reduceReplicate → qF
open Go.Proofs
def Eg(neg:Bool)(m d:Nat):List RC:=[.d (.bool (sg neg m)),.d (Ad (limbs (m/Nat.gcd m d))),.d (Ad (limbs (d/Nat.gcd m d)))]
theorem LW(neg:Bool)(a b:List Nat)(ha:Ok a)(hl:a.length≤900)(hb:Ok b)(hm:b.length≤900)(h0:val b≠0):
  CallsF Tryz.prog 162 [.agg [.bool neg,Ad a],.c (Ad b)] (.u (.agg (Eg neg (val a) (val b)))):=by
 have n1:=EO b hb (by omega)
 have n2:=QB neg a ha (by omega)
 have l1:=Bu a ha;have l2:=Bu b hb;generalize val a=m at*;generalize val b=d at*;have hm1:(limbs m).length≤900:=by omega
 have hd1:(limbs d).length≤900:=by omega
 have g:=L5 (limbs m) (limbs d) (Aw _) hm1 (Aw _) hd1;rw[Az,Az]at g;have hgd:Nat.gcd m d∣d:=Nat.gcd_dvd_right m d;have hgm:Nat.gcd m d∣m:=Nat.gcd_dvd_left m d;have hg0:0<Nat.gcd m d:=Nat.gcd_pos_of_pos_right m (by omega)
 have hgle:Nat.gcd m d≤d:=Nat.le_of_dvd (by omega) hgd
 have hgl:(limbs (Nat.gcd m d)).length≤900:=Nat.le_trans (CG hgle) hd1;have d1:=LV (limbs m) (limbs (Nat.gcd m d)) (Aw _) (Aw _) hm1 hgl (by rw[Az];omega)
 have d2:=LV (limbs d) (limbs (Nat.gcd m d)) (Aw _) (Aw _) hd1 hgl (by rw[Az];omega)
 rw[Az,Az]at d1 d2
 have o1:=EK (limbs d);have o2:=EK (limbs (Nat.gcd m d));rw[Ty (m:=0)]at o1;rw[Ty (m:=0)]at o2;have hne:limbs d≠[]:=fun h=>h0 (limbs_nil.1 h)
 have hz0:m=0→Nat.gcd m d=d:=fun h=>by rw[h,Nat.gcd_zero_left]
 have hone:d=1→Nat.gcd m d=1:=fun h=>by rw[h,Nat.gcd_one_right]
 have hzz:m=0↔limbs m=[]:=limbs_nil.symm
 unfold Eg;generalize hG:Nat.gcd m d=G at*;refine cO Tryz.func162 rfl ?_;simp -implicitDefEqProofs[jJ,-qA,-qB,-qC,-qD,-qE];refine Ac n1 ?_;simp -implicitDefEqProofs[jJ,-qA,-qB,-qC,-qD,-qE];refine Ac n2 ?_;simp -implicitDefEqProofs[jJ,-qA,-qB,-qC,-qD,-qE,AU];by_cases hz:m=0
 ·have e:G=d:=hz0 hz
  subst hz;rw[e,Nat.zero_div,Nat.div_self (by omega)]
  simp -implicitDefEqProofs[jJ,-qA,-qB,-qC,-qD,-qE,Cm,Ea,hne];refine Ac Ir ?_;simp -implicitDefEqProofs[jJ,-qA,-qB,-qC,-qD,-qE,sg]
  try rfl
 ·have hne2:limbs m≠[]:=fun h=>hz (limbs_nil.1 h)
  simp -implicitDefEqProofs[jJ,-qA,-qB,-qC,-qD,-qE,hne,hne2];refine Ac o1 ?_;by_cases h1:d=1
  ·have e:G=1:=hone h1
   rw[e,Nat.div_one,Nat.div_one]
   simp -implicitDefEqProofs[jJ,-qA,-qB,-qC,-qD,-qE,h1]
  ·simp -implicitDefEqProofs[jJ,-qA,-qB,-qC,-qD,-qE,h1];refine Ac g ?_;simp -implicitDefEqProofs[jJ,-qA,-qB,-qC,-qD,-qE];refine Ac o2 ?_;by_cases h2:G=1
   ·rw[h2,Nat.div_one,Nat.div_one]
    simp -implicitDefEqProofs[jJ,-qA,-qB,-qC,-qD,-qE]
   ·simp -implicitDefEqProofs[jJ,-qA,-qB,-qC,-qD,-qE,h2];refine Ac d1 ?_;simp -implicitDefEqProofs[jJ,-qA,-qB,-qC,-qD,-qE];refine Ac d2 ?_;simp -implicitDefEqProofs[jJ,-qA,-qB,-qC,-qD,-qE]
theorem jiV(na nb:Bool)(a b c d:List Nat)(ha:Ok a)(la:a.length≤400)(hb:Ok b)(lb:b.length≤400)(hc:Ok c)(lc:c.length≤400)(hd:Ok d)(ld:d.length≤400)(b0:val b≠0)(d0:val d≠0):
  CallsF Tryz.prog 159 [.agg [.bool na,Ad a,Ad b],.agg [.bool nb,Ad c,Ad d]] (.u (.agg (Eg (!decide (na=nb)) (val a*val c) (val b*val d)))):=by
 have p1:=El na a b hb (by omega) b0
 have p2:=El nb c d hd (by omega) d0
 have m1:=F2 na nb a c ha (by omega) hc (by omega)
 have m2:=Mj b d hb (by omega) hd (by omega)
 have b1:=Cp a c ha hc;have b2:=Cp b d hb hd;have k:=LW (sg (!decide (na=nb)) (val a*val c)) (limbs (val a*val c)) (limbs (val b*val d)) (Aw _) (by omega) (Aw _) (by omega) (by rw[Az];exact Nat.mul_ne_zero b0 d0)
 rw[Az,Az]at k
 have e:Eg (sg (!decide (na=nb)) (val a*val c)) (val a*val c) (val b*val d)=Eg (!decide (na=nb)) (val a*val c) (val b*val d):=by
  unfold Eg;have: ∀(s:Bool) (m:Nat),sg (sg s m) m=sg s m:=by intro s m;unfold sg;cases s<;>simp
  rw[this]
 rw[e]at k
 clear ha la hb lb hc lc hd ld b0 d0 b1 b2 e;refine cO Tryz.func159 rfl ?_;simp -implicitDefEqProofs[jJ,-qA,-qB,-qC,-qD,-qE];refine Ac p1 ?_;simp -implicitDefEqProofs[jJ,-qA,-qB,-qC,-qD,-qE];refine Ac p2 ?_;simp -implicitDefEqProofs[jJ,-qA,-qB,-qC,-qD,-qE];refine Ac m1 ?_;simp -implicitDefEqProofs[jJ,-qA,-qB,-qC,-qD,-qE,AU];refine Ac m2 ?_;simp -implicitDefEqProofs[jJ,-qA,-qB,-qC,-qD,-qE];refine Ac k ?_;simp -implicitDefEqProofs[jJ,-qA,-qB,-qC,-qD,-qE,Eg]
theorem Dv(z:Int):toZ (decide (z<0)) z.natAbs=z:=by
 unfold toZ;by_cases h:z<0
 ·simp[h];omega
 ·simp[h];omega
theorem Uu(na nb:Bool)(a b:List Nat)(ha:Ok a)(hl:a.length≤90000)(hb:Ok b)(hm:b.length≤90000):
  CallsF Tryz.prog 233 [.c (.slice 2 [.bool na,Ad a,.bool nb,Ad b])] (.u (.agg (BJ (toZ na (val a)+toZ nb (val b))))):=by
 have k1:=RS false na [] a Ok.nil (by simp) ha (by omega)
 have l1:(limbs (toZ na (val a)).natAbs).length≤90000:=by
  have:=Bu a ha
  have e:(toZ na (val a)).natAbs=val a:=by unfold toZ;cases na<;>simp
  rw[e]
  omega
 have k2:=RS (decide (toZ na (val a)<0)) nb (limbs (toZ na (val a)).natAbs) b (Aw _) (by omega) hb (by omega)
 rw[Az,Dv]at k2
 rw[show toZ false (val [])+toZ na (val a)=toZ na (val a) by simp[toZ,val]]at k1
 rw[show Ad []=D.slice 0 [] from rfl]at k1
 generalize toZ na (val a)+toZ nb (val b)=z at*;generalize toZ na (val a)=y at*;unfold BJ at*;clear ha hl hb hm l1;refine cO Tryz.func233 rfl ?_;simp -implicitDefEqProofs[jJ,-qA,-qB];refine AV (fun i:Nat=>match i with
  |0=>⟨[(8,vI .i64 0),(7,vI .i64 2),(6,vC (.d (.slice 2 [.bool na,Ad a,.bool nb,Ad b]))),(3,vC (.ptr 3 0)),(2,vC (.ptr 2 0))],[(3,.box [.d (.bool false),.nl]),(2,.box [.d (.bool false),.nl])]⟩
  |1=>⟨[(8,vI .i64 1),(7,vI .i64 2),(6,vC (.d (.slice 2 [.bool na,Ad a,.bool nb,Ad b]))),(3,vC (.ptr 3 0)),(2,vC (.ptr 2 0))],[(3,.box [.d (.bool (decide (y<0))),.d (Ad (limbs y.natAbs))]),(2,.box [.d (.bool false),.nl])]⟩
  |_=>⟨[(8,vI .i64 2),(7,vI .i64 2),(6,vC (.d (.slice 2 [.bool na,Ad a,.bool nb,Ad b]))),(3,vC (.ptr 3 0)),(2,vC (.ptr 2 0))],[(3,.box [.d (.bool (decide (z<0))),.d (Ad (limbs z.natAbs))]),(2,.box [.d (.bool false),.nl])]⟩)
  (fun i=>i≤2) (fun i=>2 - i) 0 (by simp[AW,lk,St.le,vI,vC]) (by omega) ?_
 rintro i hi
 match i,hi with
 |0,_=>
  simp -implicitDefEqProofs[jJ,-qA,-qB]
  (first|refine Ac k1 ?_|refine Ae k1 ?_)
  simp -implicitDefEqProofs[jJ,-qA,-qB];exact⟨1,by simp[AW,lk,St.le,vI,vC],by omega,by omega⟩
 |1,_=>
  simp -implicitDefEqProofs[jJ,-qA,-qB]
  (first|refine Ac k2 ?_|refine Ae k2 ?_)
  simp -implicitDefEqProofs[jJ,-qA,-qB];exact⟨2,by simp[AW,lk,St.le,vI,vC],by omega,by omega⟩
 |2,_=>
  simp -implicitDefEqProofs[jJ,-qA,-qB]
def Qe:List (List Nat):=(Ah [0,0,2,7,0,0,47,127,255,511,0,0,4095,8191,16383])
@[simp]def Q6:List Seg:=[.any [] [39] (AG [39] [[5],[8],[32],[31,33],[7],[6],[36],[35,37]]++[⟨4,[34,38],[],[],[]⟩]++[⟨0,[39],[],[],[]⟩]++AG [39] [[6],[8]]),.one,.one,.one]
def By(q:Rat):List RC:=[.d (.bool (decide (q.num<0))),.d (Ad (limbs q.num.natAbs)),.d (Ad (limbs q.den))]
def Br(q:Rat):List D:=[.bool (decide (q.num<0)),Ad (limbs q.num.natAbs),Ad (limbs q.den)]
theorem TF{m d:Nat}(h:d≠0):0<Nat.gcd d m:=Nat.gcd_pos_of_pos_left m (by omega)
theorem JA{neg:Bool}{m d:Nat}(h:d≠0):Eg neg m d=By (mkRat (toZ neg m) d):=by
 have hg:=TF (m:=m) h;have hm:Nat.gcd d m∣m:=Nat.gcd_dvd_right d m;have e1:(toZ neg m).natAbs=m:=by unfold toZ;cases neg<;>simp
 unfold Eg By;rw[Rat.num_mkRat,Rat.den_mkRat,if_neg h,if_neg h,e1,Nat.gcd_comm m d];obtain⟨k,hk⟩:=hm;generalize Nat.gcd d m=g at*;subst hk;have ek:g*k/g=k:=Nat.mul_div_cancel_left k hg;rw[ek];have hgz:(g:Int)≠0:=by omega
 have hpos:0<g*k↔0<k:=by
  constructor
  ·intro h0;rcases Nat.eq_zero_or_pos k with rfl|h1
   ·simp at h0
   ·exact h1
  ·exact Nat.mul_pos hg
 cases neg with
 |false=>
  have:toZ false (g*k)/(g:Int)=(k:Int):=by
   unfold toZ;rw[if_neg (by simp),Int.natCast_mul]
   exact Int.mul_ediv_cancel_left _ hgz
  rw[this]
  have: ¬((k:Int)<0):=by omega
  simp[sg,this]
 |true=>
  have:toZ true (g*k)/(g:Int)= -(k:Int):=by
   unfold toZ;simp only[if_true,Int.natCast_mul];rw[←Int.mul_neg];exact Int.mul_ediv_cancel_left _ hgz
  rw[this]
  have:decide (-(k:Int)<0)=decide (0<k):=decide_eq_decide.2 (by omega)
  rw[this]
  simp[sg,hpos]
theorem jgl(na nb:Bool)(a b c d:List Nat)(ha:Ok a)(la:a.length≤400)(hb:Ok b)(lb:b.length≤400)(hc:Ok c)(lc:c.length≤400)(hd:Ok d)(ld:d.length≤400)(b0:val b≠0)(d0:val d≠0):
  CallsF Tryz.prog 158 [.agg [.bool na,Ad a,Ad b],.agg [.bool nb,Ad c,Ad d]] (.u (.agg (By (mkRat (toZ na (val a)) (val b)+mkRat (toZ nb (val c)) (val d))))):=by
 have p1:=El na a b hb (by omega) b0
 have p2:=El nb c d hd (by omega) d0
 have o1:=EK b;have o2:=EK d;rw[Rat.mkRat_add_mkRat _ _ b0 d0];by_cases h1:b=[1]∧d=[1]
 ·obtain⟨rfl,rfl⟩:=h1
  have s:=Uu na nb a c ha (by omega) hc (by omega)
  have e1:val [1]=1:=rfl
  rw[e1]
  simp only[Int.natCast_one,Int.mul_one,Nat.mul_one];have hz:(limbs (toZ na (val a)+toZ nb (val c)).natAbs).length≤900:=by
   have v1:=Bz a ha;have v2:=Bz c hc;have w1:=Nat.pow_le_pow_right (show 0<65536 by omega) la
   have w2:=Nat.pow_le_pow_right (show 0<65536 by omega) lc
   have:(toZ na (val a)+toZ nb (val c)).natAbs≤val a+val c:=by
    unfold toZ;cases na<;>cases nb<;>simp<;>omega
   have hh: ∀n,n=400→(limbs (toZ na (val a)+toZ nb (val c)).natAbs).length≤n+1:=fun n hn=>Ew _ (n+1) (by
    rw[←hn]at w1 w2
    rw[Nat.pow_succ]
    omega)
   have:=hh 400 rfl
   omega
  have k:=LW (decide (toZ na (val a)+toZ nb (val c)<0)) (limbs (toZ na (val a)+toZ nb (val c)).natAbs) [1] (Aw _) hz (Ok.nil.cons (by omega)) (by simp) (by decide)
  rw[Az,e1,JA (by omega),Dv]at k
  unfold BJ at s;unfold By at k ⊢;generalize mkRat (toZ na (val a)+toZ nb (val c)) 1=Q at*;generalize toZ na (val a)+toZ nb (val c)=z at*;clear ha la hb lb hc lc hd ld hz;refine cO Tryz.func158 rfl ?_;simp -implicitDefEqProofs[jJ,-qA,-qB,-qC,-qD,-qE]
  (first|refine Ac p1 ?_|refine Ae p1 ?_)
  simp -implicitDefEqProofs[jJ,-qA,-qB,-qC,-qD,-qE]
  (first|refine Ac p2 ?_|refine Ae p2 ?_)
  simp -implicitDefEqProofs[jJ,-qA,-qB,-qC,-qD,-qE]
  (first|refine Ac o1 ?_|refine Ae o1 ?_)
  simp -implicitDefEqProofs[jJ,-qA,-qB,-qC,-qD,-qE]
  (first|refine Ac o2 ?_|refine Ae o2 ?_)
  simp -implicitDefEqProofs[jJ,-qA,-qB,-qC,-qD,-qE]
  (first|refine Ac s ?_|refine Ae s ?_)
  simp -implicitDefEqProofs[jJ,-qA,-qB,-qC,-qD,-qE]
  (first|refine Ac k ?_|refine Ae k ?_)
  simp -implicitDefEqProofs[jJ,-qA,-qB,-qC,-qD,-qE]
 ·have m1:=F2 na false a d ha (by omega) hd (by omega)
  have m2:=F2 nb false c b hc (by omega) hb (by omega)
  have m3:=Mj b d hb (by omega) hd (by omega)
  have w1:=GS d;have w2:=GS b;have b1:=Cp a d ha hd;have b2:=Cp c b hc hb;have b3:=Cp b d hb hd;have f1:(!decide (na=false))=na:=by cases na<;>rfl
  have f2:(!decide (nb=false))=nb:=by cases nb<;>rfl
  rw[f1]at m1
  rw[f2]at m2
  have s:=Uu (sg na (val a*val d)) (sg nb (val c*val b)) (limbs (val a*val d)) (limbs (val c*val b)) (Aw _) (by omega) (Aw _) (by omega)
  rw[Az,Az]at s
  have t1:toZ (sg na (val a*val d)) (val a*val d)=toZ na (val a)*(val d:Int):=by
   unfold toZ sg;cases na
   ·simp
   ·simp only[Bool.true_and,decide_eq_true_eq,if_true];split
    ·rw[Int.natCast_mul,Int.neg_mul]
    ·have:val a*val d=0:=by omega
     rw[this]
     simp only[Int.neg_mul,←Int.natCast_mul,this];rfl
  have t2:toZ (sg nb (val c*val b)) (val c*val b)=toZ nb (val c)*(val b:Int):=by
   unfold toZ sg;cases nb
   ·simp
   ·simp only[Bool.true_and,decide_eq_true_eq,if_true];split
    ·rw[Int.natCast_mul,Int.neg_mul]
    ·have:val c*val b=0:=by omega
     rw[this]
     simp only[Int.neg_mul,←Int.natCast_mul,this];rfl
  rw[t1,t2]at s
  have hz:(limbs (toZ na (val a)*(val d:Int)+toZ nb (val c)*(val b:Int)).natAbs).length≤900:=by
   have v1:=Bz _ (Aw (val a*val d));have v2:=Bz _ (Aw (val c*val b));rw[Az]at v1 v2;have w1:=Nat.pow_le_pow_right (show 0<65536 by omega) (show(limbs (val a*val d)).length≤800 by omega)
   have w2:=Nat.pow_le_pow_right (show 0<65536 by omega) (show(limbs (val c*val b)).length≤800 by omega)
   have:(toZ na (val a)*(val d:Int)+toZ nb (val c)*(val b:Int)).natAbs≤val a*val d+val c*val b:=by
    rw[←t1,←t2]
    generalize val a*val d=x;generalize val c*val b=y;unfold toZ;cases (sg na x)<;>cases (sg nb y)<;>simp<;>omega
   have hh: ∀n,n=800→(limbs (toZ na (val a)*(val d:Int)+toZ nb (val c)*(val b:Int)).natAbs).length≤n+1:=fun n hn=>Ew _ (n+1) (by
    rw[←hn]at w1 w2
    rw[Nat.pow_succ]
    omega)
   have:=hh 800 rfl
   omega
  have k:=LW (decide (toZ na (val a)*(val d:Int)+toZ nb (val c)*(val b:Int)<0)) (limbs (toZ na (val a)*(val d:Int)+toZ nb (val c)*(val b:Int)).natAbs) (limbs (val b*val d)) (Aw _) hz (Aw _) (by omega) (by rw[Az];exact Nat.mul_ne_zero b0 d0)
  rw[Az,Az,JA (Nat.mul_ne_zero b0 d0),Dv]at k
  unfold BJ at s;unfold AU at m1 m2;unfold By at k ⊢;have hne: ¬(decide (b=[1])=true∧decide (d=[1])=true):=by simpa using h1
  generalize mkRat (toZ na (val a)*(val d:Int)+toZ nb (val c)*(val b:Int)) (val b*val d)=Q at*;generalize toZ na (val a)*(val d:Int)+toZ nb (val c)*(val b:Int)=z at*;clear ha la hb lb hc lc hd ld hz t1 t2 b1 b2 b3;generalize decide (b=[1])=e1 at*;generalize decide (d=[1])=e2 at*;have hfin:True:=trivial;cases e1 with
  |false=>
   refine cO Tryz.func158 rfl ?_;simp -implicitDefEqProofs[jJ,-qA,-qB,-qC,-qD,-qE]
   (first|refine Ac p1 ?_|refine Ae p1 ?_)
   simp -implicitDefEqProofs[jJ,-qA,-qB,-qC,-qD,-qE]
   (first|refine Ac p2 ?_|refine Ae p2 ?_)
   simp -implicitDefEqProofs[jJ,-qA,-qB,-qC,-qD,-qE]
   (first|refine Ac o1 ?_|refine Ae o1 ?_)
   simp -implicitDefEqProofs[jJ,-qA,-qB,-qC,-qD,-qE];refine AA Qe Q6 (by rfl) ?_
   simp -implicitDefEqProofs[jJ,-qA,-qB,-qC,-qD,-qE]
   (first|refine Ac w1 ?_|refine Ae w1 ?_)
   simp -implicitDefEqProofs[jJ,-qA,-qB,-qC,-qD,-qE]
   (first|refine Ac m1 ?_|refine Ae m1 ?_)
   simp -implicitDefEqProofs[jJ,-qA,-qB,-qC,-qD,-qE]
   (first|refine Ac w2 ?_|refine Ae w2 ?_)
   simp -implicitDefEqProofs[jJ,-qA,-qB,-qC,-qD,-qE]
   (first|refine Ac m2 ?_|refine Ae m2 ?_)
   simp -implicitDefEqProofs[jJ,-qA,-qB,-qC,-qD,-qE]
   (first|refine Ac s ?_|refine Ae s ?_)
   simp -implicitDefEqProofs[jJ,-qA,-qB,-qC,-qD,-qE]
   (first|refine Ac m3 ?_|refine Ae m3 ?_)
   simp -implicitDefEqProofs[jJ,-qA,-qB,-qC,-qD,-qE]
   (first|refine Ac k ?_|refine Ae k ?_)
   simp -implicitDefEqProofs[jJ,-qA,-qB,-qC,-qD,-qE]
  |true=>
   have he:e2=false:=by
    cases e2 with
    |false=>rfl
    |true=>exact absurd ⟨rfl,rfl⟩ hne
   subst he;refine cO Tryz.func158 rfl ?_;simp -implicitDefEqProofs[jJ,-qA,-qB,-qC,-qD,-qE]
   (first|refine Ac p1 ?_|refine Ae p1 ?_)
   simp -implicitDefEqProofs[jJ,-qA,-qB,-qC,-qD,-qE]
   (first|refine Ac p2 ?_|refine Ae p2 ?_)
   simp -implicitDefEqProofs[jJ,-qA,-qB,-qC,-qD,-qE]
   (first|refine Ac o1 ?_|refine Ae o1 ?_)
   simp -implicitDefEqProofs[jJ,-qA,-qB,-qC,-qD,-qE]
   (first|refine Ac o2 ?_|refine Ae o2 ?_)
   simp -implicitDefEqProofs[jJ,-qA,-qB,-qC,-qD,-qE];refine AA Qe Q6 (by rfl) ?_
   simp -implicitDefEqProofs[jJ,-qA,-qB,-qC,-qD,-qE]
   (first|refine Ac w1 ?_|refine Ae w1 ?_)
   simp -implicitDefEqProofs[jJ,-qA,-qB,-qC,-qD,-qE]
   (first|refine Ac m1 ?_|refine Ae m1 ?_)
   simp -implicitDefEqProofs[jJ,-qA,-qB,-qC,-qD,-qE]
   (first|refine Ac w2 ?_|refine Ae w2 ?_)
   simp -implicitDefEqProofs[jJ,-qA,-qB,-qC,-qD,-qE]
   (first|refine Ac m2 ?_|refine Ae m2 ?_)
   simp -implicitDefEqProofs[jJ,-qA,-qB,-qC,-qD,-qE]
   (first|refine Ac s ?_|refine Ae s ?_)
   simp -implicitDefEqProofs[jJ,-qA,-qB,-qC,-qD,-qE]
   (first|refine Ac m3 ?_|refine Ae m3 ?_)
   simp -implicitDefEqProofs[jJ,-qA,-qB,-qC,-qD,-qE]
   (first|refine Ac k ?_|refine Ae k ?_)
   simp -implicitDefEqProofs[jJ,-qA,-qB,-qC,-qD,-qE]
def Bq(q:Rat)(k:Nat):Prop:=q.num.natAbs<65536^k∧q.den<65536^k
theorem Bq.ln{q:Rat}{k:Nat}(h:Bq q k):(limbs q.num.natAbs).length≤k:=Ew _ _ h.1
theorem Bq.ld{q:Rat}{k:Nat}(h:Bq q k):(limbs q.den).length≤k:=Ew _ _ h.2
theorem Bq.mono{q:Rat}{j k:Nat}(h:Bq q j)(hk:j≤k):Bq q k:=by
 have:=Nat.pow_le_pow_right (show 0<65536 by omega) hk
 exact⟨Nat.lt_of_lt_of_le h.1 this,Nat.lt_of_lt_of_le h.2 this⟩
theorem NL{n:Int}{d k:Nat}(h1:n.natAbs<65536^k)(h2:d<65536^k)(h0:d≠0):Bq (mkRat n d) k:=by
 unfold Bq;rw[Rat.num_mkRat,Rat.den_mkRat,if_neg h0,if_neg h0];refine⟨Nat.lt_of_le_of_lt ?_ h1,Nat.lt_of_le_of_lt (Nat.div_le_self _ _) h2⟩;have hg:((Nat.gcd d n.natAbs:Nat):Int)∣n:=Int.ofNat_dvd_left.2 (Nat.gcd_dvd_right _ _);obtain⟨k,hk⟩:=hg;have hp:0<Nat.gcd d n.natAbs:=TF h0;generalize Nat.gcd d n.natAbs=g at*;subst hk;rw[Int.mul_ediv_cancel_left _ (by omega),Int.natAbs_mul]
 exact Nat.le_mul_of_pos_left _ (by simpa using hp)
theorem L3(p q:Rat):p+q=mkRat (p.num*q.den+q.num*p.den) (p.den*q.den):=by
 rw[←Rat.mkRat_add_mkRat _ _ p.den_nz q.den_nz,Rat.mkRat_self,Rat.mkRat_self]
theorem LS(p q:Rat):p*q=mkRat (p.num*q.num) (p.den*q.den):=by
 rw[←Rat.mkRat_mul_mkRat,Rat.mkRat_self,Rat.mkRat_self]
theorem Bq.add{p q:Rat}{j k:Nat}(h1:Bq p j)(h2:Bq q k):Bq (p+q) (j+k+1):=by
 rw[L3]
 have a1:=Nat.mul_lt_mul'' h1.1 h2.2;have a2:=Nat.mul_lt_mul'' h2.1 h1.2;have a3:=Nat.mul_lt_mul'' h1.2 h2.2;rw[←Nat.pow_add]at a1 a2 a3;rw[Nat.add_comm k j]at a2;have hp:65536^(j+k+1)=65536^(j+k)*65536:=Nat.pow_succ ..;refine NL ?_ ?_ (Nat.mul_ne_zero p.den_nz q.den_nz)
 ·have:(p.num*q.den+q.num*p.den).natAbs≤(p.num*q.den).natAbs+(q.num*p.den).natAbs:=Int.natAbs_add_le _ _
  rw[Int.natAbs_mul,Int.natAbs_mul,Int.natAbs_natCast,Int.natAbs_natCast]at this
  omega
 ·omega
theorem Bq.mul{p q:Rat}{j k:Nat}(h1:Bq p j)(h2:Bq q k):Bq (p*q) (j+k):=by
 rw[LS]
 have a1:=Nat.mul_lt_mul'' h1.1 h2.1;have a3:=Nat.mul_lt_mul'' h1.2 h2.2;rw[←Nat.pow_add]at a1 a3;exact NL (by rw[Int.natAbs_mul];exact a1) a3 (Nat.mul_ne_zero p.den_nz q.den_nz)
theorem Bq.neg{q:Rat}{k:Nat}(h:Bq q k):Bq (-q) k:=by
 unfold Bq;rw[Rat.neg_num,Rat.neg_den,Int.natAbs_neg];exact h
theorem Bq.sub{p q:Rat}{j k:Nat}(h1:Bq p j)(h2:Bq q k):Bq (p - q) (j+k+1):=by
 rw[Rat.sub_eq_add_neg]
 exact h1.add h2.neg
theorem U1(z:Int):toZ (!decide (z<0)) z.natAbs= -z:=by
 unfold toZ;by_cases h:z<0
 ·simp[h];omega
 ·simp[h];omega
theorem jkj{p q:Rat}{k:Nat}(hp:Bq p k)(hq:Bq q k)(hk:k≤400):CallsF Tryz.prog 85 [.agg (Br p),.agg (Br q)] (.u (.agg (By (p - q)))):=by
 have h:=jgl (decide (p.num<0)) (!decide (q.num<0)) (limbs p.num.natAbs) (limbs p.den) (limbs q.num.natAbs) (limbs q.den)
  (Aw _) (by have:=hp.ln;omega) (Aw _) (by have:=hp.ld;omega) (Aw _) (by have:=hq.ln;omega) (Aw _) (by have:=hq.ld;omega) (by rw[Az];exact p.den_nz) (by rw[Az];exact q.den_nz)
 rw[Az,Az,Az,Az,Dv,U1,Rat.mkRat_self,←Rat.neg_mkRat,Rat.mkRat_self,←Rat.sub_eq_add_neg]at h
 unfold By Br at*;generalize p - q=r at*;clear hp hq;refine cO Tryz.func85 rfl ?_;simp -implicitDefEqProofs[jJ,-qA,-qB,-qC,-qD,-qE]
 (first|refine Ac h ?_|refine Ae h ?_)
 simp -implicitDefEqProofs[jJ,-qA,-qB,-qC,-qD,-qE]
theorem jeK{p q:Rat}{k:Nat}(hp:Bq p k)(hq:Bq q k)(hk:k≤400):CallsF Tryz.prog 159 [.agg (Br p),.agg (Br q)] (.u (.agg (By (p*q)))):=by
 have h:=jiV (decide (p.num<0)) (decide (q.num<0)) (limbs p.num.natAbs) (limbs p.den) (limbs q.num.natAbs) (limbs q.den)
  (Aw _) (by have:=hp.ln;omega) (Aw _) (by have:=hp.ld;omega) (Aw _) (by have:=hq.ln;omega) (Aw _) (by have:=hq.ld;omega) (by rw[Az];exact p.den_nz) (by rw[Az];exact q.den_nz)
 rw[Az,Az,Az,Az,JA (Nat.mul_ne_zero p.den_nz q.den_nz)]at h
 have e:toZ (!decide (decide (p.num<0)=decide (q.num<0))) (p.num.natAbs*q.num.natAbs)=p.num*q.num:=by
  rw[←Int.natAbs_mul]
  unfold toZ;have hm:(p.num*q.num).natAbs=p.num.natAbs*q.num.natAbs:=Int.natAbs_mul _ _;rcases Int.lt_or_le p.num 0 with h1|h1<;>rcases Int.lt_or_le q.num 0 with h2|h2
  ·have:=Int.mul_pos_of_neg_of_neg h1 h2
   simp[h1,h2];omega
  ·have h3: ¬q.num<0:=by omega
   have:=Int.mul_nonpos_of_nonpos_of_nonneg (Int.le_of_lt h1) h2
   simp[h1,h3];omega
  ·have h3: ¬p.num<0:=by omega
   have:=Int.mul_nonpos_of_nonneg_of_nonpos h1 (Int.le_of_lt h2)
   simp[h2,h3];omega
  ·have h3: ¬p.num<0:=by omega
   have h4: ¬q.num<0:=by omega
   have:=Int.mul_nonneg h1 h2
   simp[h3,h4];omega
 rwa [e,←LS]at h
def fc(k:Int)(l:List Int):Fct:=⟨k,l,false,[],[]⟩
def rf(l:List Int)(q:Rat):Fct:=⟨9,l,decide (q.num<0),limbs q.num.natAbs,limbs q.den⟩
def divF(x a b:Int)(q:Rat):List Fct:=
 if q=mkRat 1 2 then [fc 5 [x,a,b]] else if q=2 then [fc 5 [b,a,x]] else if q= -1 then [fc 5 [a,b,x]] else [fc 1 [x,a,b],rf [a,x,a,b] (q*q),rf [b,x,a,b] ((1 - q)*(1 - q))]
def stpF(k x:Int)(l:List Int)(q:Rat):List Fct:=
 match l with
 |[a,b]=>if k=2 then divF x a b q else if k=5 then [fc 1 [x,a,b]] else if k=6 then [fc 4 [a,x,a,b]] else if k=14 then [fc 4 [a,x,a,b],fc 4 [b,x,a,b]] else []
 |[a,b,c]=>if k=3 then [fc 2 [a,x,b,c],fc 4 [a,x,b,c],fc 2 [a,b,x,c],fc 4 [a,b,x,c]] else if k=4 then [fc 3 [a,x,b,c],fc 4 [a,x,b,c]] else if k=7 then [fc 1 [x,b,c],fc 3 [a,x,b,c]]
  else if k=8 then [fc 3 [a,x,b,c],fc 4 [b,x,b,a],fc 4 [c,x,c,a]] else if k=10 then [fc 1 [x,a,b],fc 4 [c,x,c,a]] else if k=11 then [fc 4 [x,a,x,b],fc 4 [x,a,x,c]] else []
 |[a,b,c,d]=>if k=9 then [fc 1 [x,a,b],fc 1 [x,c,d]] else if k=12 then [fc 1 [x,a,b],fc 4 [c,x,c,d]] else if k=13 then [fc 4 [a,x,a,b],fc 4 [c,x,c,d]] else []
 |_=>[]
theorem If(k:Int)(l:List Int):CallsF Tryz.prog 87 [.c (.int .i64 k),.c (intsD l)] (fc k l).res:=by
 refine cO Tryz.func87 rfl ?_;simp -implicitDefEqProofs[jJ,-qA,-qB,Fct.res,fc]
 try rfl
theorem Bc(a b c:Int):D.slice 3 [.int .i64 a,.int .i64 b,.int .i64 c]=intsD [a,b,c]:=rfl
theorem Bd(a b c d:Int):D.slice 4 [.int .i64 a,.int .i64 b,.int .i64 c,.int .i64 d]=intsD [a,b,c,d]:=rfl
theorem Gw(a b c:Int):CallsF Tryz.prog 35 [.c (.int .i64 a),.c (.int .i64 b),.c (.int .i64 c)] (fc 1 [a,b,c]).res:=by
 have k:=If 1 [a,b,c];refine cO Tryz.func35 rfl ?_;simp -implicitDefEqProofs[jJ,-qA,-qB,Bc]
 (first|refine Ac k ?_|refine Ae k ?_)
 simp -implicitDefEqProofs[jJ,-qA,-qB,Fct.res,fc]
theorem M8(a b c:Int):CallsF Tryz.prog 83 [.c (.int .i64 a),.c (.int .i64 b),.c (.int .i64 c)] (fc 5 [a,b,c]).res:=by
 have k:=If 5 [a,b,c];refine cO Tryz.func83 rfl ?_;simp -implicitDefEqProofs[jJ,-qA,-qB,Bc]
 (first|refine Ac k ?_|refine Ae k ?_)
 simp -implicitDefEqProofs[jJ,-qA,-qB,Fct.res,fc]
theorem O0(a b c d:Int):CallsF Tryz.prog 32 [.c (.int .i64 a),.c (.int .i64 b),.c (.int .i64 c),.c (.int .i64 d)] (fc 2 [a,b,c,d]).res:=by
 have k:=If 2 [a,b,c,d];refine cO Tryz.func32 rfl ?_;simp -implicitDefEqProofs[jJ,-qA,-qB,Bd]
 (first|refine Ac k ?_|refine Ae k ?_)
 simp -implicitDefEqProofs[jJ,-qA,-qB,Fct.res,fc]
theorem LG(a b c d:Int):CallsF Tryz.prog 34 [.c (.int .i64 a),.c (.int .i64 b),.c (.int .i64 c),.c (.int .i64 d)] (fc 3 [a,b,c,d]).res:=by
 have k:=If 3 [a,b,c,d];refine cO Tryz.func34 rfl ?_;simp -implicitDefEqProofs[jJ,-qA,-qB,Bd]
 (first|refine Ac k ?_|refine Ae k ?_)
 simp -implicitDefEqProofs[jJ,-qA,-qB,Fct.res,fc]
theorem CV(a b c d:Int):CallsF Tryz.prog 33 [.c (.int .i64 a),.c (.int .i64 b),.c (.int .i64 c),.c (.int .i64 d)] (fc 4 [a,b,c,d]).res:=by
 have k:=If 4 [a,b,c,d];refine cO Tryz.func33 rfl ?_;simp -implicitDefEqProofs[jJ,-qA,-qB,Bd]
 (first|refine Ac k ?_|refine Ae k ?_)
 simp -implicitDefEqProofs[jJ,-qA,-qB,Fct.res,fc]
theorem NT(a b c d:Int){q:Rat}{k:Nat}(hq:Bq q k)(hk:k≤400):CallsF Tryz.prog 86 [.c (.int .i64 a),.c (.int .i64 b),.c (.int .i64 c),.c (.int .i64 d),.agg (Br q)] (rf [a,b,c,d] (q*q)).res:=by
 have k:=jeK hq hq hk;unfold By Br at*;unfold rf;generalize q*q=p at*;clear hq;refine cO Tryz.func86 rfl ?_;simp -implicitDefEqProofs[jJ,-qA,-qB,Bd]
 (first|refine Ac k ?_|refine Ae k ?_)
 simp -implicitDefEqProofs[jJ,-qA,-qB,Fct.res];rfl
theorem je9(m d:Nat)(hm:m<9223372036854775808)(hd:d<9223372036854775808)(d0:d≠0)(hg:Nat.gcd m d=1):
  CallsF Tryz.prog 82 [.c (.int .i64 m),.c (.int .i64 d)] (.u (.agg [.d (.bool false),.d (Ad (limbs m)),.d (Ad (limbs d))])):=by
 have k:=T4 (sg false m) (sg false d) m d (by omega) (by omega) hg
 rw[if_neg d0]at k
 refine cO Tryz.func82 rfl ?_;simp -implicitDefEqProofs[jJ,-qA,-qB]
 (first|refine Ac (HX m hm) ?_|refine Ae (HX m hm) ?_)
 simp -implicitDefEqProofs[jJ,-qA,-qB,AU]
 (first|refine Ac (HX d hd) ?_|refine Ae (HX d hd) ?_)
 simp -implicitDefEqProofs[jJ,-qA,-qB,AU]
 (first|refine Ac k ?_|refine Ae k ?_)
 simp -implicitDefEqProofs[jJ,-qA,-qB,sg]
theorem jbK:CallsF Tryz.prog 82 [.c (.int .i64 1),.c (.int .i64 2)] (.u (.agg (By (mkRat 1 2)))):=je9 1 2 (by decide) (by decide) (by decide) (by decide)
theorem Wc:CallsF Tryz.prog 84 [.c (.int .i64 2)] (.u (.agg (By 2))):=KS 2 (by decide)
theorem jdP:CallsF Tryz.prog 84 [.c (.int .i64 1)] (.u (.agg (By 1))):=KS 1 (by decide)
theorem P1:Bq (mkRat 1 2) 2∧Bq 2 2∧Bq 1 2∧Bq (-1) 2:=⟨⟨by decide,by decide⟩,⟨by decide,by decide⟩,⟨by decide,by decide⟩,⟨by decide,by decide⟩⟩
end Go.Va
