/- a part of the proof -/
import Derived.Test.YtkajmpgbnbikiaaGreatDoorMbi
import Derived.Test.YtkajmpgbnbikiaaGreatDoorMap
set_option linter.all false
set_option maxHeartbeats 4000000
set_option maxRecDepth 10000
namespace Go.Va
open Int (natCast_add natCast_mul natCast_emod natCast_ediv natCast_pow)
open Go.Proofs
theorem DP(z:Int):toZ (decide (z<0)) z.natAbs=z:=by
 unfold toZ;by_cases h:z<0
 ·simp[h];omega
 ·simp[h];omega
theorem PC(na nb:Bool)(a b:List Nat)(ha:Ok a)(hl:a.length≤90000)(hb:Ok b)(hm:b.length≤90000):
  CallsF Tryz.prog 307 [.c (.slice 2 [.bool na,Ac a,.bool nb,Ac b])] (.u (.agg (Bz (toZ na (val a)+toZ nb (val b))))):=by
 have k1:=Ue false na [] a Ok.nil (by simp) ha (by omega)
 have l1:(limbs (toZ na (val a)).natAbs).length≤90000:=by
  have:=Bg a ha
  have e:(toZ na (val a)).natAbs=val a:=by unfold toZ;cases na<;>simp
  rw[e]
  omega
 have k2:=Ue (decide (toZ na (val a)<0)) nb (limbs (toZ na (val a)).natAbs) b (An _) (by omega) hb (by omega)
 rw[Ao,DP]at k2
 rw[show toZ false (val [])+toZ na (val a)=toZ na (val a) by simp[toZ,val]]at k1
 rw[show Ac []=D.slice 0 [] from rfl]at k1
 generalize toZ na (val a)+toZ nb (val b)=z at*;generalize toZ na (val a)=y at*;unfold Bz at*;clear ha hl hb hm l1;refine Ak (T:=tb) Ah mixed Tryz.func307 rfl (by decide) (Af rfl) rfl ?_;unfold St.init
 simp -implicitDefEqProofs[jJ,-natCast_add,-natCast_mul];refine AF (fun i:Nat=>match i with
  |0=>⟨[(8,vI .i64 0),(7,vI .i64 2),(6,vC (.d (.slice 2 [.bool na,Ac a,.bool nb,Ac b]))),(3,vC (.ptr 3 0)),(2,vC (.ptr 2 0))],[(3,.box [.d (.bool false),.nl]),(2,.box [.d (.bool false),.nl])]⟩
  |1=>⟨[(8,vI .i64 1),(7,vI .i64 2),(6,vC (.d (.slice 2 [.bool na,Ac a,.bool nb,Ac b]))),(3,vC (.ptr 3 0)),(2,vC (.ptr 2 0))],[(3,.box [.d (.bool (decide (y<0))),.d (Ac (limbs y.natAbs))]),(2,.box [.d (.bool false),.nl])]⟩
  |_=>⟨[(8,vI .i64 2),(7,vI .i64 2),(6,vC (.d (.slice 2 [.bool na,Ac a,.bool nb,Ac b]))),(3,vC (.ptr 3 0)),(2,vC (.ptr 2 0))],[(3,.box [.d (.bool (decide (z<0))),.d (Ac (limbs z.natAbs))]),(2,.box [.d (.bool false),.nl])]⟩)
  (fun i=>i≤2) (fun i=>2 - i) 0 (by simp[Aw,lk,St.le,vI,vC]) (by omega) ?_
 rintro i hi
 match i,hi with
 |0,_=>
  simp -implicitDefEqProofs[jJ,-natCast_add,-natCast_mul]
  (first|refine Ab k1 ?_|refine Aa k1 ?_)
  simp -implicitDefEqProofs[jJ,-natCast_add,-natCast_mul];exact⟨1,by simp[Aw,lk,St.le,vI,vC],by omega,by omega⟩
 |1,_=>
  simp -implicitDefEqProofs[jJ,-natCast_add,-natCast_mul]
  (first|refine Ab k2 ?_|refine Aa k2 ?_)
  simp -implicitDefEqProofs[jJ,-natCast_add,-natCast_mul];exact⟨2,by simp[Aw,lk,St.le,vI,vC],by omega,by omega⟩
 |2,_=>
  simp -implicitDefEqProofs[jJ,-natCast_add,-natCast_mul]
def Rq:List (List Nat):=(Ad [0,0,2,7,0,0,47,127,255,511,0,0,4095,8191,16383])
@[simp]def O4:List Seg:=[.any [] [39] [⟨0,[5],[],[39],[]⟩,⟨0,[8],[],[39],[]⟩,⟨0,[32],[],[39],[]⟩,⟨0,[31,33],[],[39],[]⟩,⟨0,[7],[],[39],[]⟩,⟨0,[6],[],[39],[]⟩,⟨0,[36],[],[39],[]⟩,⟨0,[35,37],[],[39],[]⟩,⟨4,[34,38],[],[],[]⟩,⟨0,[39],[],[],[]⟩,⟨0,[6],[],[39],[]⟩,⟨0,[8],[],[39],[]⟩],.one,.one,.one]
def AZ(q:Rat):List RC:=[.d (.bool (decide (q.num<0))),.d (Ac (limbs q.num.natAbs)),.d (Ac (limbs q.den))]
def AS(q:Rat):List D:=[.bool (decide (q.num<0)),Ac (limbs q.num.natAbs),Ac (limbs q.den)]
theorem Tp{m d:Nat}(h:d≠0):0<Nat.gcd d m:=Nat.gcd_pos_of_pos_left m (by omega)
theorem JP{neg:Bool}{m d:Nat}(h:d≠0):Ep neg m d=AZ (mkRat (toZ neg m) d):=by
 have hg:=Tp (m:=m) h;have hm:Nat.gcd d m∣m:=Nat.gcd_dvd_right d m;have e1:(toZ neg m).natAbs=m:=by unfold toZ;cases neg<;>simp
 unfold Ep AZ;rw[Rat.num_mkRat,Rat.den_mkRat,if_neg h,if_neg h,e1,Nat.gcd_comm m d];obtain⟨k,hk⟩:=hm;generalize Nat.gcd d m=g at*;subst hk;have ek:g*k/g=k:=Nat.mul_div_cancel_left k hg;rw[ek];have hgz:(g:Int)≠0:=by omega
 have hpos:0<g*k↔0<k:=by
  constructor
  ·intro h0;rcases Nat.eq_zero_or_pos k with rfl|h1
   ·simp at h0
   ·exact h1
  ·exact Nat.mul_pos hg
 cases neg with
 |false=>
  have:toZ false (g*k)/(g:Int)=(k:Int):=by
   unfold toZ;rw[if_neg (by simp),Int.natCast_mul]
   exact Int.mul_ediv_cancel_left _ hgz
  rw[this]
  have: ¬((k:Int)<0):=by omega
  simp[sg,this]
 |true=>
  have:toZ true (g*k)/(g:Int)= -(k:Int):=by
   unfold toZ;simp only[if_true,Int.natCast_mul];rw[←Int.mul_neg];exact Int.mul_ediv_cancel_left _ hgz
  rw[this]
  have:decide (-(k:Int)<0)=decide (0<k):=decide_eq_decide.2 (by omega)
  rw[this]
  simp[sg,hpos]
theorem jkx(na nb:Bool)(a b c d:List Nat)(ha:Ok a)(la:a.length≤400)(hb:Ok b)(lb:b.length≤400)(hc:Ok c)(lc:c.length≤400)(hd:Ok d)(ld:d.length≤400)(b0:val b≠0)(d0:val d≠0):
  CallsF Tryz.prog 265 [.agg [.bool na,Ac a,Ac b],.agg [.bool nb,Ac c,Ac d]] (.u (.agg (AZ (mkRat (toZ na (val a)) (val b)+mkRat (toZ nb (val c)) (val d))))):=by
 have p1:=Ej na a b hb (by omega) b0
 have p2:=Ej nb c d hd (by omega) d0
 have o1:=Fq b;have o2:=Fq d;rw[Rat.mkRat_add_mkRat _ _ b0 d0];by_cases h1:b=[1]∧d=[1]
 ·obtain⟨rfl,rfl⟩:=h1
  have s:=PC na nb a c ha (by omega) hc (by omega)
  have e1:val [1]=1:=rfl
  rw[e1]
  simp only[Int.natCast_one,Int.mul_one,Nat.mul_one];have hz:(limbs (toZ na (val a)+toZ nb (val c)).natAbs).length≤900:=by
   have v1:=Bn a ha;have v2:=Bn c hc;have w1:=Nat.pow_le_pow_right (show 0<65536 by omega) la
   have w2:=Nat.pow_le_pow_right (show 0<65536 by omega) lc
   have:(toZ na (val a)+toZ nb (val c)).natAbs≤val a+val c:=by
    unfold toZ;cases na<;>cases nb<;>simp<;>omega
   have hh: ∀n,n=400→(limbs (toZ na (val a)+toZ nb (val c)).natAbs).length≤n+1:=fun n hn=>EX _ (n+1) (by
    rw[←hn]at w1 w2
    rw[Nat.pow_succ]
    omega)
   have:=hh 400 rfl
   omega
  have k:=My (decide (toZ na (val a)+toZ nb (val c)<0)) (limbs (toZ na (val a)+toZ nb (val c)).natAbs) [1] (An _) hz (Ok.nil.cons (by omega)) (by simp) (by decide)
  rw[Ao,e1,JP (by omega),DP]at k
  unfold Bz at s;unfold AZ at k ⊢;generalize mkRat (toZ na (val a)+toZ nb (val c)) 1=Q at*;generalize toZ na (val a)+toZ nb (val c)=z at*;clear ha la hb lb hc lc hd ld hz;refine Ak (T:=tb) Ah mixed Tryz.func265 rfl (by decide) (Af rfl) rfl ?_;unfold St.init
  simp -implicitDefEqProofs[jJ,-natCast_add,-natCast_mul,-natCast_emod,-natCast_ediv,-natCast_pow]
  (first|refine Ab p1 ?_|refine Aa p1 ?_)
  simp -implicitDefEqProofs[jJ,-natCast_add,-natCast_mul,-natCast_emod,-natCast_ediv,-natCast_pow]
  (first|refine Ab p2 ?_|refine Aa p2 ?_)
  simp -implicitDefEqProofs[jJ,-natCast_add,-natCast_mul,-natCast_emod,-natCast_ediv,-natCast_pow]
  (first|refine Ab o1 ?_|refine Aa o1 ?_)
  simp -implicitDefEqProofs[jJ,-natCast_add,-natCast_mul,-natCast_emod,-natCast_ediv,-natCast_pow]
  (first|refine Ab o2 ?_|refine Aa o2 ?_)
  simp -implicitDefEqProofs[jJ,-natCast_add,-natCast_mul,-natCast_emod,-natCast_ediv,-natCast_pow]
  (first|refine Ab s ?_|refine Aa s ?_)
  simp -implicitDefEqProofs[jJ,-natCast_add,-natCast_mul,-natCast_emod,-natCast_ediv,-natCast_pow]
  (first|refine Ab k ?_|refine Aa k ?_)
  simp -implicitDefEqProofs[jJ,-natCast_add,-natCast_mul,-natCast_emod,-natCast_ediv,-natCast_pow]
 ·have m1:=Gq na false a d ha (by omega) hd (by omega)
  have m2:=Gq nb false c b hc (by omega) hb (by omega)
  have m3:=Mw b d hb (by omega) hd (by omega)
  have w1:=FW d;have w2:=FW b;have b1:=CO a d ha hd;have b2:=CO c b hc hb;have b3:=CO b d hb hd;have f1:(!decide (na=false))=na:=by cases na<;>rfl
  have f2:(!decide (nb=false))=nb:=by cases nb<;>rfl
  rw[f1]at m1
  rw[f2]at m2
  have s:=PC (sg na (val a*val d)) (sg nb (val c*val b)) (limbs (val a*val d)) (limbs (val c*val b)) (An _) (by omega) (An _) (by omega)
  rw[Ao,Ao]at s
  have t1:toZ (sg na (val a*val d)) (val a*val d)=toZ na (val a)*(val d:Int):=by
   unfold toZ sg;cases na
   ·simp
   ·simp only[Bool.true_and,decide_eq_true_eq,if_true];split
    ·rw[Int.natCast_mul,Int.neg_mul]
    ·have:val a*val d=0:=by omega
     rw[this]
     simp only[Int.neg_mul,←Int.natCast_mul,this];rfl
  have t2:toZ (sg nb (val c*val b)) (val c*val b)=toZ nb (val c)*(val b:Int):=by
   unfold toZ sg;cases nb
   ·simp
   ·simp only[Bool.true_and,decide_eq_true_eq,if_true];split
    ·rw[Int.natCast_mul,Int.neg_mul]
    ·have:val c*val b=0:=by omega
     rw[this]
     simp only[Int.neg_mul,←Int.natCast_mul,this];rfl
  rw[t1,t2]at s
  have hz:(limbs (toZ na (val a)*(val d:Int)+toZ nb (val c)*(val b:Int)).natAbs).length≤900:=by
   have v1:=Bn _ (An (val a*val d));have v2:=Bn _ (An (val c*val b));rw[Ao]at v1 v2;have w1:=Nat.pow_le_pow_right (show 0<65536 by omega) (show(limbs (val a*val d)).length≤800 by omega)
   have w2:=Nat.pow_le_pow_right (show 0<65536 by omega) (show(limbs (val c*val b)).length≤800 by omega)
   have:(toZ na (val a)*(val d:Int)+toZ nb (val c)*(val b:Int)).natAbs≤val a*val d+val c*val b:=by
    rw[←t1,←t2]
    generalize val a*val d=x;generalize val c*val b=y;unfold toZ;cases (sg na x)<;>cases (sg nb y)<;>simp<;>omega
   have hh: ∀n,n=800→(limbs (toZ na (val a)*(val d:Int)+toZ nb (val c)*(val b:Int)).natAbs).length≤n+1:=fun n hn=>EX _ (n+1) (by
    rw[←hn]at w1 w2
    rw[Nat.pow_succ]
    omega)
   have:=hh 800 rfl
   omega
  have k:=My (decide (toZ na (val a)*(val d:Int)+toZ nb (val c)*(val b:Int)<0)) (limbs (toZ na (val a)*(val d:Int)+toZ nb (val c)*(val b:Int)).natAbs) (limbs (val b*val d)) (An _) hz (An _) (by omega) (by rw[Ao];exact Nat.mul_ne_zero b0 d0)
  rw[Ao,Ao,JP (Nat.mul_ne_zero b0 d0),DP]at k
  unfold Bz at s;unfold AO at m1 m2;unfold AZ at k ⊢;have hne: ¬(decide (b=[1])=true∧decide (d=[1])=true):=by simpa using h1
  generalize mkRat (toZ na (val a)*(val d:Int)+toZ nb (val c)*(val b:Int)) (val b*val d)=Q at*;generalize toZ na (val a)*(val d:Int)+toZ nb (val c)*(val b:Int)=z at*;clear ha la hb lb hc lc hd ld hz t1 t2 b1 b2 b3;generalize decide (b=[1])=e1 at*;generalize decide (d=[1])=e2 at*;have hfin:True:=trivial;cases e1 with
  |false=>
   refine Ak (T:=tb) Ah mixed Tryz.func265 rfl (by decide) (Af rfl) rfl ?_;unfold St.init
   simp -implicitDefEqProofs[jJ,-natCast_add,-natCast_mul,-natCast_emod,-natCast_ediv,-natCast_pow]
   (first|refine Ab p1 ?_|refine Aa p1 ?_)
   simp -implicitDefEqProofs[jJ,-natCast_add,-natCast_mul,-natCast_emod,-natCast_ediv,-natCast_pow]
   (first|refine Ab p2 ?_|refine Aa p2 ?_)
   simp -implicitDefEqProofs[jJ,-natCast_add,-natCast_mul,-natCast_emod,-natCast_ediv,-natCast_pow]
   (first|refine Ab o1 ?_|refine Aa o1 ?_)
   simp -implicitDefEqProofs[jJ,-natCast_add,-natCast_mul,-natCast_emod,-natCast_ediv,-natCast_pow];refine At Rq O4 (by rfl) ?_
   simp -implicitDefEqProofs[jJ,-natCast_add,-natCast_mul,-natCast_emod,-natCast_ediv,-natCast_pow]
   (first|refine Ab w1 ?_|refine Aa w1 ?_)
   simp -implicitDefEqProofs[jJ,-natCast_add,-natCast_mul,-natCast_emod,-natCast_ediv,-natCast_pow]
   (first|refine Ab m1 ?_|refine Aa m1 ?_)
   simp -implicitDefEqProofs[jJ,-natCast_add,-natCast_mul,-natCast_emod,-natCast_ediv,-natCast_pow]
   (first|refine Ab w2 ?_|refine Aa w2 ?_)
   simp -implicitDefEqProofs[jJ,-natCast_add,-natCast_mul,-natCast_emod,-natCast_ediv,-natCast_pow]
   (first|refine Ab m2 ?_|refine Aa m2 ?_)
   simp -implicitDefEqProofs[jJ,-natCast_add,-natCast_mul,-natCast_emod,-natCast_ediv,-natCast_pow]
   (first|refine Ab s ?_|refine Aa s ?_)
   simp -implicitDefEqProofs[jJ,-natCast_add,-natCast_mul,-natCast_emod,-natCast_ediv,-natCast_pow]
   (first|refine Ab m3 ?_|refine Aa m3 ?_)
   simp -implicitDefEqProofs[jJ,-natCast_add,-natCast_mul,-natCast_emod,-natCast_ediv,-natCast_pow]
   (first|refine Ab k ?_|refine Aa k ?_)
   simp -implicitDefEqProofs[jJ,-natCast_add,-natCast_mul,-natCast_emod,-natCast_ediv,-natCast_pow]
  |true=>
   have he:e2=false:=by
    cases e2 with
    |false=>rfl
    |true=>exact absurd ⟨rfl,rfl⟩ hne
   subst he;refine Ak (T:=tb) Ah mixed Tryz.func265 rfl (by decide) (Af rfl) rfl ?_;unfold St.init
   simp -implicitDefEqProofs[jJ,-natCast_add,-natCast_mul,-natCast_emod,-natCast_ediv,-natCast_pow]
   (first|refine Ab p1 ?_|refine Aa p1 ?_)
   simp -implicitDefEqProofs[jJ,-natCast_add,-natCast_mul,-natCast_emod,-natCast_ediv,-natCast_pow]
   (first|refine Ab p2 ?_|refine Aa p2 ?_)
   simp -implicitDefEqProofs[jJ,-natCast_add,-natCast_mul,-natCast_emod,-natCast_ediv,-natCast_pow]
   (first|refine Ab o1 ?_|refine Aa o1 ?_)
   simp -implicitDefEqProofs[jJ,-natCast_add,-natCast_mul,-natCast_emod,-natCast_ediv,-natCast_pow]
   (first|refine Ab o2 ?_|refine Aa o2 ?_)
   simp -implicitDefEqProofs[jJ,-natCast_add,-natCast_mul,-natCast_emod,-natCast_ediv,-natCast_pow];refine At Rq O4 (by rfl) ?_
   simp -implicitDefEqProofs[jJ,-natCast_add,-natCast_mul,-natCast_emod,-natCast_ediv,-natCast_pow]
   (first|refine Ab w1 ?_|refine Aa w1 ?_)
   simp -implicitDefEqProofs[jJ,-natCast_add,-natCast_mul,-natCast_emod,-natCast_ediv,-natCast_pow]
   (first|refine Ab m1 ?_|refine Aa m1 ?_)
   simp -implicitDefEqProofs[jJ,-natCast_add,-natCast_mul,-natCast_emod,-natCast_ediv,-natCast_pow]
   (first|refine Ab w2 ?_|refine Aa w2 ?_)
   simp -implicitDefEqProofs[jJ,-natCast_add,-natCast_mul,-natCast_emod,-natCast_ediv,-natCast_pow]
   (first|refine Ab m2 ?_|refine Aa m2 ?_)
   simp -implicitDefEqProofs[jJ,-natCast_add,-natCast_mul,-natCast_emod,-natCast_ediv,-natCast_pow]
   (first|refine Ab s ?_|refine Aa s ?_)
   simp -implicitDefEqProofs[jJ,-natCast_add,-natCast_mul,-natCast_emod,-natCast_ediv,-natCast_pow]
   (first|refine Ab m3 ?_|refine Aa m3 ?_)
   simp -implicitDefEqProofs[jJ,-natCast_add,-natCast_mul,-natCast_emod,-natCast_ediv,-natCast_pow]
   (first|refine Ab k ?_|refine Aa k ?_)
   simp -implicitDefEqProofs[jJ,-natCast_add,-natCast_mul,-natCast_emod,-natCast_ediv,-natCast_pow]
def Bq(q:Rat)(k:Nat):Prop:=q.num.natAbs<65536^k∧q.den<65536^k
theorem Bq.ln{q:Rat}{k:Nat}(h:Bq q k):(limbs q.num.natAbs).length≤k:=EX _ _ h.1
theorem Bq.ld{q:Rat}{k:Nat}(h:Bq q k):(limbs q.den).length≤k:=EX _ _ h.2
theorem Bq.mono{q:Rat}{j k:Nat}(h:Bq q j)(hk:j≤k):Bq q k:=by
 have:=Nat.pow_le_pow_right (show 0<65536 by omega) hk
 exact⟨Nat.lt_of_lt_of_le h.1 this,Nat.lt_of_lt_of_le h.2 this⟩
theorem Pb{n:Int}{d k:Nat}(h1:n.natAbs<65536^k)(h2:d<65536^k)(h0:d≠0):Bq (mkRat n d) k:=by
 unfold Bq;rw[Rat.num_mkRat,Rat.den_mkRat,if_neg h0,if_neg h0];refine⟨Nat.lt_of_le_of_lt ?_ h1,Nat.lt_of_le_of_lt (Nat.div_le_self _ _) h2⟩;have hg:((Nat.gcd d n.natAbs:Nat):Int)∣n:=Int.ofNat_dvd_left.2 (Nat.gcd_dvd_right _ _);obtain⟨k,hk⟩:=hg;have hp:0<Nat.gcd d n.natAbs:=Tp h0;generalize Nat.gcd d n.natAbs=g at*;subst hk;rw[Int.mul_ediv_cancel_left _ (by omega),Int.natAbs_mul]
 exact Nat.le_mul_of_pos_left _ (by simpa using hp)
theorem QV(p q:Rat):p+q=mkRat (p.num*q.den+q.num*p.den) (p.den*q.den):=by
 rw[←Rat.mkRat_add_mkRat _ _ p.den_nz q.den_nz,Rat.mkRat_self,Rat.mkRat_self]
theorem LD(p q:Rat):p*q=mkRat (p.num*q.num) (p.den*q.den):=by
 rw[←Rat.mkRat_mul_mkRat,Rat.mkRat_self,Rat.mkRat_self]
theorem Bq.add{p q:Rat}{j k:Nat}(h1:Bq p j)(h2:Bq q k):Bq (p+q) (j+k+1):=by
 rw[QV]
 have a1:=Nat.mul_lt_mul'' h1.1 h2.2;have a2:=Nat.mul_lt_mul'' h2.1 h1.2;have a3:=Nat.mul_lt_mul'' h1.2 h2.2;rw[←Nat.pow_add]at a1 a2 a3;rw[Nat.add_comm k j]at a2;have hp:65536^(j+k+1)=65536^(j+k)*65536:=Nat.pow_succ ..;refine Pb ?_ ?_ (Nat.mul_ne_zero p.den_nz q.den_nz)
 ·have:(p.num*q.den+q.num*p.den).natAbs≤(p.num*q.den).natAbs+(q.num*p.den).natAbs:=Int.natAbs_add_le _ _
  rw[Int.natAbs_mul,Int.natAbs_mul,Int.natAbs_natCast,Int.natAbs_natCast]at this
  omega
 ·omega
theorem Bq.mul{p q:Rat}{j k:Nat}(h1:Bq p j)(h2:Bq q k):Bq (p*q) (j+k):=by
 rw[LD]
 have a1:=Nat.mul_lt_mul'' h1.1 h2.1;have a3:=Nat.mul_lt_mul'' h1.2 h2.2;rw[←Nat.pow_add]at a1 a3;exact Pb (by rw[Int.natAbs_mul];exact a1) a3 (Nat.mul_ne_zero p.den_nz q.den_nz)
theorem Bq.neg{q:Rat}{k:Nat}(h:Bq q k):Bq (-q) k:=by
 unfold Bq;rw[Rat.neg_num,Rat.neg_den,Int.natAbs_neg];exact h
theorem Bq.sub{p q:Rat}{j k:Nat}(h1:Bq p j)(h2:Bq q k):Bq (p - q) (j+k+1):=by
 rw[Rat.sub_eq_add_neg]
 exact h1.add h2.neg
theorem Py(z:Int):toZ (!decide (z<0)) z.natAbs= -z:=by
 unfold toZ;by_cases h:z<0
 ·simp[h];omega
 ·simp[h];omega
theorem LM{p q:Rat}{k:Nat}(hp:Bq p k)(hq:Bq q k)(hk:k≤400):CallsF Tryz.prog 183 [.agg (AS p),.agg (AS q)] (.u (.agg (AZ (p - q)))):=by
 have h:=jkx (decide (p.num<0)) (!decide (q.num<0)) (limbs p.num.natAbs) (limbs p.den) (limbs q.num.natAbs) (limbs q.den)
  (An _) (by have:=hp.ln;omega) (An _) (by have:=hp.ld;omega) (An _) (by have:=hq.ln;omega) (An _) (by have:=hq.ld;omega) (by rw[Ao];exact p.den_nz) (by rw[Ao];exact q.den_nz)
 rw[Ao,Ao,Ao,Ao,DP,Py,Rat.mkRat_self,←Rat.neg_mkRat,Rat.mkRat_self,←Rat.sub_eq_add_neg]at h
 unfold AZ AS at*;generalize p - q=r at*;clear hp hq;refine Ak (T:=tb) Ah mixed Tryz.func183 rfl (by decide) (Af rfl) rfl ?_;unfold St.init
 simp -implicitDefEqProofs[jJ,-natCast_add,-natCast_mul,-natCast_emod,-natCast_ediv,-natCast_pow]
 (first|refine Ab h ?_|refine Aa h ?_)
 simp -implicitDefEqProofs[jJ,-natCast_add,-natCast_mul,-natCast_emod,-natCast_ediv,-natCast_pow]
theorem O2{p q:Rat}{k:Nat}(hp:Bq p k)(hq:Bq q k)(hk:k≤400):CallsF Tryz.prog 228 [.agg (AS p),.agg (AS q)] (.u (.agg (AZ (p*q)))):=by
 have h:=Wg (decide (p.num<0)) (decide (q.num<0)) (limbs p.num.natAbs) (limbs p.den) (limbs q.num.natAbs) (limbs q.den)
  (An _) (by have:=hp.ln;omega) (An _) (by have:=hp.ld;omega) (An _) (by have:=hq.ln;omega) (An _) (by have:=hq.ld;omega) (by rw[Ao];exact p.den_nz) (by rw[Ao];exact q.den_nz)
 rw[Ao,Ao,Ao,Ao,JP (Nat.mul_ne_zero p.den_nz q.den_nz)]at h
 have e:toZ (!decide (decide (p.num<0)=decide (q.num<0))) (p.num.natAbs*q.num.natAbs)=p.num*q.num:=by
  rw[←Int.natAbs_mul]
  unfold toZ;have hm:(p.num*q.num).natAbs=p.num.natAbs*q.num.natAbs:=Int.natAbs_mul _ _;rcases Int.lt_or_le p.num 0 with h1|h1<;>rcases Int.lt_or_le q.num 0 with h2|h2
  ·have:=Int.mul_pos_of_neg_of_neg h1 h2
   simp[h1,h2];omega
  ·have h3: ¬q.num<0:=by omega
   have:=Int.mul_nonpos_of_nonpos_of_nonneg (Int.le_of_lt h1) h2
   simp[h1,h3];omega
  ·have h3: ¬p.num<0:=by omega
   have:=Int.mul_nonpos_of_nonneg_of_nonpos h1 (Int.le_of_lt h2)
   simp[h2,h3];omega
  ·have h3: ¬p.num<0:=by omega
   have h4: ¬q.num<0:=by omega
   have:=Int.mul_nonneg h1 h2
   simp[h3,h4];omega
 rwa [e,←LD]at h
structure Pq where
 x:Rat
 y:Rat
def Pq.ds(p:Pq):List D:=AS p.x++AS p.y
def Pq.rc(p:Pq):List RC:=AZ p.x++AZ p.y
def Pq.B(p:Pq)(k:Nat):Prop:=Bq p.x k∧Bq p.y k
def vec(a b:Pq):Pq:=⟨b.x - a.x,b.y - a.y⟩
def Pq.cross(u v:Pq):Rat:=u.x*v.y - u.y*v.x
theorem Du{a b:Pq}{k:Nat}(ha:a.B k)(hb:b.B k):(vec a b).B (k+k+1):=⟨hb.1.sub ha.1,hb.2.sub ha.2⟩
theorem Kf{u v:Pq}{k:Nat}(hu:u.B k)(hv:v.B k):Bq (u.cross v) (k+k+(k+k)+1):=(hu.1.mul hv.2).sub (hu.2.mul hv.1)
theorem Ph{a b:Pq}{k:Nat}(ha:a.B k)(hb:b.B k)(hk:k≤400):CallsF Tryz.prog 145 [.agg a.ds,.agg b.ds] (.u (.agg (vec a b).rc)):=by
 have k1:=LM hb.1 ha.1 hk;have k2:=LM hb.2 ha.2 hk;unfold Pq.ds Pq.rc vec;simp only;unfold AS AZ at*;generalize b.x - a.x=X at*;generalize b.y - a.y=Y at*;simp only[List.cons_append,List.nil_append];refine Ak (T:=tb) Ah mixed Tryz.func145 rfl (by decide) (Af rfl) rfl ?_;unfold St.init
 simp -implicitDefEqProofs[jJ,-natCast_add,-natCast_mul];refine At (Ad [0,1,0,4,15,0,32,0,128,511,1023,2047]) [.any [] [] (Ap [[3],[5],[2],[7],[6,8],[3],[10],[2],[12]]),.one,.one,.one] (by rfl) ?_
 simp -implicitDefEqProofs[jJ,-natCast_add,-natCast_mul]
 (first|refine Ab k1 ?_|refine Aa k1 ?_)
 simp -implicitDefEqProofs[jJ,-natCast_add,-natCast_mul]
 (first|refine Ab k2 ?_|refine Aa k2 ?_)
 simp -implicitDefEqProofs[jJ,-natCast_add,-natCast_mul]
theorem jaw{u v:Pq}{k:Nat}(hu:u.B k)(hv:v.B k)(hk:k≤200):CallsF Tryz.prog 146 [.agg u.ds,.agg v.ds] (.u (.agg (AZ (u.cross v)))):=by
 have k1:=O2 hu.1 hv.2 (by omega)
 have k2:=O2 hu.2 hv.1 (by omega)
 have k3:=LM (hu.1.mul hv.2) (hu.2.mul hv.1) (by omega)
 unfold Pq.ds Pq.cross;unfold AS AZ at*;generalize u.x*v.y - u.y*v.x=Z at*;generalize u.x*v.y=X at*;generalize u.y*v.x=Y at*;simp only[List.cons_append,List.nil_append];refine Ak (T:=tb) Ah mixed Tryz.func146 rfl (by decide) (Af rfl) rfl ?_;unfold St.init
 simp -implicitDefEqProofs[jJ,-natCast_add,-natCast_mul];refine At (Ad [0,1,0,4,15,0,32,0,128,511,1023,2047]) [.any [] [] (Ap [[2],[5],[3],[7],[6,8],[2],[10],[3],[12]]),.one,.one,.one] (by rfl) ?_
 simp -implicitDefEqProofs[jJ,-natCast_add,-natCast_mul]
 (first|refine Ab k1 ?_|refine Aa k1 ?_)
 simp -implicitDefEqProofs[jJ,-natCast_add,-natCast_mul]
 (first|refine Ab k2 ?_|refine Aa k2 ?_)
 simp -implicitDefEqProofs[jJ,-natCast_add,-natCast_mul]
 (first|refine Ab k3 ?_|refine Aa k3 ?_)
 simp -implicitDefEqProofs[jJ,-natCast_add,-natCast_mul]
theorem NT{a b c d:Pq}{k:Nat}(ha:a.B k)(hb:b.B k)(hc:c.B k)(hd:d.B k)(hk:k≤90):CallsF Tryz.prog 87 [.agg a.ds,.agg b.ds,.agg c.ds,.agg d.ds] (.u (.agg (AZ ((vec a b).cross (vec c d))))):=by
 have k1:=Ph ha hb (by omega)
 have k2:=Ph hc hd (by omega)
 have k3:=jaw (Du ha hb) (Du hc hd) (by omega)
 generalize (vec a b).cross (vec c d)=Z at*;generalize vec a b=u at*;generalize vec c d=v at*;unfold Pq.ds Pq.rc at*;unfold AS AZ at*;simp only[List.cons_append,List.nil_append]at*;refine Ak (T:=tb) Ah mixed Tryz.func87 rfl (by decide) (Af rfl) rfl ?_;unfold St.init
 simp -implicitDefEqProofs[jJ,-natCast_add,-natCast_mul];refine At (Ad [0,0,3,0,0,31,63,127]) [.any [] [] (Ap [[4],[5],[9,10],[6],[7]]),.one,.one,.one] (by rfl) ?_
 simp -implicitDefEqProofs[jJ,-natCast_add,-natCast_mul]
 (first|refine Ab k1 ?_|refine Aa k1 ?_)
 simp -implicitDefEqProofs[jJ,-natCast_add,-natCast_mul]
 (first|refine Ab k2 ?_|refine Aa k2 ?_)
 simp -implicitDefEqProofs[jJ,-natCast_add,-natCast_mul]
 (first|refine Ab k3 ?_|refine Aa k3 ?_)
 simp -implicitDefEqProofs[jJ,-natCast_add,-natCast_mul]
def sgnQ(q:Rat):Int:=if q=0 then 0 else if q.num<0 then -1 else 1
theorem QE{q:Rat}{k:Nat}(hq:Bq q k)(hk:k≤900):CallsF Tryz.prog 86 [.agg (AS q)] (.u (.c (.d (.int .i64 (sgnQ q))))):=by
 have h:=G4 (decide (q.num<0)) (limbs q.num.natAbs) (limbs q.den) (An _) (by have:=hq.ln;omega) (An _) (by have:=hq.ld;omega) (by rw[Ao];exact q.den_nz)
 rw[Ao]at h
 have e:AQ (decide (q.num<0)) q.num.natAbs=sgnQ q:=by
  unfold AQ sgnQ;by_cases h0:q=0
  ·subst h0;simp
  ·have:q.num≠0:=fun h1=>h0 (Rat.num_eq_zero.1 h1)
   have h2: ¬q.num.natAbs=0:=by omega
   rw[if_neg h0,if_neg h2]
   simp
 rwa [e]at h
end Go.Va
namespace Go.Va
open Go.Proofs
theorem Pq.ds_len(p:Pq):p.ds.length=6:=rfl
def Cv(l:List Pq):D:= .slice l.length (l.flatMap Pq.ds)
@[simp high]theorem jjM(l:List Pq):(l.flatMap Pq.ds).length=l.length*6:=DG Pq.ds_len l
@[simp]theorem lenC_pqs(l:List Pq):lenC (.d (Cv l))=some l.length:=rfl
@[simp]theorem flat_pqs(l:List Pq):D.flat (Cv l)=false:=rfl
@[simp]theorem jkX(h:List (Nat×Blk))(i:Int)(l:List Pq):idxSl h 6 i (.d (Cv l))=if 0≤i∧i<l.length then some (.d (.ref ((l.drop i.toNat).flatMap Pq.ds))) else none:=by
 unfold Cv idxSl;simp only[jjM,and_true,DU Pq.ds_len]
theorem TJ{l:List Pq}{i:Nat}(h:i<l.length):(l.drop i).flatMap Pq.ds=l[i].ds++(l.drop (i+1)).flatMap Pq.ds:=by
 rw[AX h];rfl
def ptsAt(pts:List Pq)(al:List Int):List Pq:=al.map fun i=>pts.getD i.toNat ⟨0,0⟩
end Go.Va
namespace Go.Va
open Int (natCast_add natCast_mul natCast_emod natCast_ediv natCast_pow)
open Go.Proofs
theorem QG{p q:Rat}:p.num*q.den=q.num*p.den↔p=q:=Rat.eq_iff_mul_eq_mul.symm
theorem PL{p q:Rat}{k:Nat}(hp:Bq p k)(hq:Bq q k)(hk:k≤400):CallsF Tryz.prog 124 [.agg (AS p),.agg (AS q)] (.u (.c (.d (.bool (decide (p=q)))))):=by
 have h:=MY (decide (p.num<0)) (decide (q.num<0)) (limbs p.num.natAbs) (limbs p.den) (limbs q.num.natAbs) (limbs q.den) (An _) (by have:=hp.ln;omega) (An _) (by have:=hp.ld;omega) (An _) (by have:=hq.ln;omega) (An _) (by have:=hq.ld;omega) (by rw[Ao];exact p.den_nz) (by rw[Ao];exact q.den_nz)
 rw[Ao,Ao,Ao,Ao,DP,DP,decide_eq_decide.2 QG]at h
 exact h
theorem jgr{a b:Pq}{k:Nat}(ha:a.B k)(hb:b.B k)(hk:k≤400):CallsF Tryz.prog 85 [.agg a.ds,.agg b.ds] (.u (.c (.d (.bool (decide (a.x=b.x)&&decide (a.y=b.y)))))):=by
 have k1:=PL ha.1 hb.1 hk;have k2:=PL ha.2 hb.2 hk;generalize decide (a.x=b.x)=b1 at*;generalize decide (a.y=b.y)=b2 at*;unfold Pq.ds at*;unfold AS at*;simp only[List.cons_append,List.nil_append]at*;refine Ak (T:=tb) Ah mixed Tryz.func85 rfl (by decide) (Af rfl) rfl ?_;unfold St.init
 simp -implicitDefEqProofs[jJ,-natCast_add,-natCast_mul]
 (first|refine Ab k1 ?_|refine Aa k1 ?_)
 cases b1 with
 |true=>
  simp -implicitDefEqProofs[jJ,-natCast_add,-natCast_mul]
  (first|refine Ab k2 ?_|refine Aa k2 ?_)
  simp -implicitDefEqProofs[jJ,-natCast_add,-natCast_mul]
 |false=>simp -implicitDefEqProofs[jJ,-natCast_add,-natCast_mul]
def Kt(k:Int):Int:=if k=1 then 2 else if k=2 then 3 else if k=3 then 4 else if k=4 then 0 else -1
theorem YP(k:Int):CallsF Tryz.prog 142 [.c (.int .i64 k)] (.u (.c (.d (.int .i64 (Kt k))))):=by
 unfold Kt;refine Ak (T:=tb) Ah mixed Tryz.func142 rfl (by decide) (Af rfl) rfl ?_;unfold St.init
 by_cases h1:k=1
 ·subst h1;simp -implicitDefEqProofs[jJ,-natCast_add,-natCast_mul]
 by_cases h2:k=2
 ·subst h2;simp -implicitDefEqProofs[jJ,-natCast_add,-natCast_mul]
 by_cases h3:k=3
 ·subst h3;simp -implicitDefEqProofs[jJ,-natCast_add,-natCast_mul]
 by_cases h4:k=4
 ·subst h4;simp -implicitDefEqProofs[jJ,-natCast_add,-natCast_mul]
 simp -implicitDefEqProofs[jJ,-natCast_add,-natCast_mul,h1,h2,h3,h4]
structure CondOk (n:Nat) (k:Int) (l:List Int):Prop where
 kl:k=1∧l.length=2∨k=2∧l.length=3
 ag: ∀a∈l,0≤a∧a<(n:Int)
end Go.Va
