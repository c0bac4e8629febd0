/- a part of the proof -/
import Derived.Test.YtlgoebgnbkhmmaaGreatDoorZat
import Derived.Test.YtlgoebgnbkhmmaaGreatDoorZay
import Derived.Test.YtlgoebgnbkhmmaaGreatDoorZav
import Derived.Test.YtlgoebgnbkhmmaaGreatDoorZaw
import Derived.Lib.Join
import Derived.Test.YtlgoebgnbkhmmaaGreatDoorTie
import Derived.Lay
import Derived.Handy
import Derived.HandedShaped
import Derived.Shelf.Vars
import Derived.Lib.LaidTab
import Derived.Stop.LaidErr
set_option linter.all false
set_option maxHeartbeats 4000000
set_option maxRecDepth 100000
namespace Go.Va
open Int renaming natCast_add → qA, natCast_mul → qB, natCast_emod → qC, natCast_ediv → qD, natCast_pow → qE
open List renaming reduceReplicate → qF
open Go.Proofs
def RB(neg:Bool)(m d:Nat):List RC:=[.d (.bool (sg neg m)),.d (Ad (limbs (m/Nat.gcd m d))),.d (Ad (limbs (d/Nat.gcd m d)))]
theorem W8(neg:Bool)(a b:List Nat)(ha:Ok a)(hl:a.length≤900)(hb:Ok b)(hm:b.length≤900)(h0:val b≠0):
  CallsF Tryz.prog 242 [.agg [.bool neg,Ad a],.c (Ad b)] (.u (.agg (RB neg (val a) (val b)))):=by
 have n1:=EO b hb (by omega)
 have n2:=QB neg a ha (by omega)
 have l1:=Bu a ha;have l2:=Bu b hb;generalize val a=m at*;generalize val b=d at*;have hm1:(limbs m).length≤900:=by omega
 have hd1:(limbs d).length≤900:=by omega
 have g:=L5 (limbs m) (limbs d) (Aw _) hm1 (Aw _) hd1;rw[Az,Az]at g;have hgd:Nat.gcd m d∣d:=Nat.gcd_dvd_right m d;have hgm:Nat.gcd m d∣m:=Nat.gcd_dvd_left m d;have hg0:0<Nat.gcd m d:=Nat.gcd_pos_of_pos_right m (by omega)
 have hgle:Nat.gcd m d≤d:=Nat.le_of_dvd (by omega) hgd
 have hgl:(limbs (Nat.gcd m d)).length≤900:=Nat.le_trans (CG hgle) hd1;have d1:=LV (limbs m) (limbs (Nat.gcd m d)) (Aw _) (Aw _) hm1 hgl (by rw[Az];omega)
 have d2:=LV (limbs d) (limbs (Nat.gcd m d)) (Aw _) (Aw _) hd1 hgl (by rw[Az];omega)
 rw[Az,Az]at d1 d2
 have o1:=EK (limbs d);have o2:=EK (limbs (Nat.gcd m d));rw[jfj (m:=0)]at o1;rw[jfj (m:=0)]at o2;have hne:limbs d≠[]:=fun h=>h0 (limbs_nil.1 h)
 have hz0:m=0→Nat.gcd m d=d:=fun h=>by rw[h,Nat.gcd_zero_left]
 have hone:d=1→Nat.gcd m d=1:=fun h=>by rw[h,Nat.gcd_one_right]
 have hzz:m=0↔limbs m=[]:=limbs_nil.symm
 unfold RB;generalize hG:Nat.gcd m d=G at*;refine cO Tryz.func242 rfl ?_;simp -implicitDefEqProofs[jJ,-qA,-qB,-qC,-qD,-qE];refine Ac n1 ?_;simp -implicitDefEqProofs[jJ,-qA,-qB,-qC,-qD,-qE];refine Ac n2 ?_;simp -implicitDefEqProofs[jJ,-qA,-qB,-qC,-qD,-qE,AU];by_cases hz:m=0
 ·have e:G=d:=hz0 hz
  subst hz;rw[e,Nat.zero_div,Nat.div_self (by omega)]
  simp -implicitDefEqProofs[jJ,-qA,-qB,-qC,-qD,-qE,Cm,Ea,hne];refine Ac Ir ?_;simp -implicitDefEqProofs[jJ,-qA,-qB,-qC,-qD,-qE,sg]
  try rfl
 ·have hne2:limbs m≠[]:=fun h=>hz (limbs_nil.1 h)
  simp -implicitDefEqProofs[jJ,-qA,-qB,-qC,-qD,-qE,hne,hne2];refine Ac o1 ?_;by_cases h1:d=1
  ·have e:G=1:=hone h1
   rw[e,Nat.div_one,Nat.div_one]
   simp -implicitDefEqProofs[jJ,-qA,-qB,-qC,-qD,-qE,h1]
  ·simp -implicitDefEqProofs[jJ,-qA,-qB,-qC,-qD,-qE,h1];refine Ac g ?_;simp -implicitDefEqProofs[jJ,-qA,-qB,-qC,-qD,-qE];refine Ac o2 ?_;by_cases h2:G=1
   ·rw[h2,Nat.div_one,Nat.div_one]
    simp -implicitDefEqProofs[jJ,-qA,-qB,-qC,-qD,-qE]
   ·simp -implicitDefEqProofs[jJ,-qA,-qB,-qC,-qD,-qE,h2];refine Ac d1 ?_;simp -implicitDefEqProofs[jJ,-qA,-qB,-qC,-qD,-qE];refine Ac d2 ?_;simp -implicitDefEqProofs[jJ,-qA,-qB,-qC,-qD,-qE]
theorem Sq{n:Nat}(h:(limbs n).length≤300):(Lib.decDigits n).length≤1446:=KT 1445 n (by
 have h1:=Bz (limbs n) (Aw _);rw[Az]at h1;have h2:=Nat.pow_le_pow_right (show 0<65536 by omega) h
 have h3:65536^300<10^(1445+1):=by decide+kernel
 omega)
theorem RM(n:Nat)(hn:(limbs n).length≤300):CallsF Tryz.prog 245 [.c (Ad (limbs n))] (.u (.c (.d (.str (Ch (Lib.decDigits n)))))):=by
 have h:=jjl (limbs n) (Aw _) hn;rw[Az]at h;exact h
theorem jf5(neg:Bool)(m:Nat)(hm:(limbs m).length≤300):
  CallsF Tryz.prog 244 [.agg [.bool neg,Ad (limbs m)]] (.u (.c (.d (.str (Ch (intW neg m)))))):=by
 have s:=HS neg (limbs m) (Aw _) (by omega)
 have t:=RM m hm;have hl:=Sq hm;have hz:=Ja (Lib.decDigits m);have ha:=Ng [45] (Lib.decDigits m);have h1:(Ch [45])={ data:= #[45] }:=rfl;rw[Az]at s;unfold intW;unfold Bg at s;generalize Lib.decDigits m=dm at*;generalize hT:Ch dm=T at*;by_cases h:neg=true∧m≠0
 ·obtain⟨rfl,h0⟩:=h
  rw[if_neg h0,if_pos rfl]at s
  rw[if_pos ⟨rfl,h0⟩,←ha,h1]
  have hs1:({ data:= #[45] }:ByteArray).size=1:=rfl
  refine cO Tryz.func244 rfl ?_;simp -implicitDefEqProofs[jJ,-qA,-qB,-qC,-qD,-qE]
  (first|refine Ac s ?_|refine Ae s ?_)
  simp -implicitDefEqProofs[jJ,-qA,-qB,-qC,-qD,-qE]
  (first|refine Ac t ?_|refine Ae t ?_)
  simp -implicitDefEqProofs[jJ,-qA,-qB,-qC,-qD,-qE,G6,hs1];omega
 ·rw[if_neg h,List.nil_append,hT]
  have hs:(if m=0 then (0:Int) else if neg=true then -1 else 1)=(if m=0 then 0 else 1):=by
   by_cases h0:m=0
   ·rw[if_pos h0,if_pos h0]
   ·rw[if_neg h0,if_neg h0,if_neg fun hn=>h ⟨hn,h0⟩]
  rw[hs]at s
  refine cO Tryz.func244 rfl ?_;by_cases h0:m=0
  ·rw[if_pos h0]at s
   simp -implicitDefEqProofs[jJ,-qA,-qB,-qC,-qD,-qE]
   (first|refine Ac s ?_|refine Ae s ?_)
   simp -implicitDefEqProofs[jJ,-qA,-qB,-qC,-qD,-qE]
   (first|refine Ac t ?_|refine Ae t ?_)
   simp -implicitDefEqProofs[jJ,-qA,-qB,-qC,-qD,-qE]
  ·rw[if_neg h0]at s
   simp -implicitDefEqProofs[jJ,-qA,-qB,-qC,-qD,-qE]
   (first|refine Ac s ?_|refine Ae s ?_)
   simp -implicitDefEqProofs[jJ,-qA,-qB,-qC,-qD,-qE]
   (first|refine Ac t ?_|refine Ae t ?_)
   simp -implicitDefEqProofs[jJ,-qA,-qB,-qC,-qD,-qE]
theorem jhM(neg:Bool)(a d:List Nat)(ha:Ok a)(hd:Ok d)(la:a.length≤300)(ld:d.length≤300)(h:CV neg a d=true):
  CallsF Tryz.prog 159 [.agg [.bool neg,Ad a,Ad d]] (.u (.c (.d (.str (Ch (BL neg (val a) (val d))))))):=by
 obtain⟨e1,e2,d0,g,hn⟩:=Cz h ha hd
 have ma:(limbs (val a)).length≤300:=by rw[←e1];exact la
 have md:(limbs (val d)).length≤300:=by rw[←e2];exact ld
 have p:=El neg a d hd (by omega) d0
 rw[e1,e2]
 rw[e1,e2]at p
 rw[Az,Az]
 generalize val a=m at*;generalize val d=n at*;have r:=W8 neg (limbs m) (limbs n) (Aw _) (by omega) (Aw _) (by omega) (by rw[Az];exact d0)
 rw[Az,Az]at r
 unfold RB at r;rw[g,Nat.div_one,Nat.div_one]at r;have o:=EK (limbs n);have hsg:sg neg m=neg:=by
  unfold sg;cases neg with
  |false=>rfl
  |true=>simpa using Nat.pos_of_ne_zero (hn rfl)
 rw[hsg]at r
 have ti:=jf5 neg m ma;have tn:=RM n md;have hl1:=Sq ma;have hl2:=Sq md;have hi:BL neg m n=intW neg m++(if n=1 then [] else 47::Lib.decDigits n):=by
  unfold BL intW;cases neg with
  |false=>simp
  |true=>simp[hn rfl]
 have hil:(intW neg m).length≤1447:=by
  unfold intW;rw[List.length_append];split<;>simp<;>omega
 rw[hi]
 have hz1:=Ja (intW neg m);have hz2:=Ja (Lib.decDigits n);have a1:=Ng (intW neg m) [47];have a2:=Ng (intW neg m++[47]) (Lib.decDigits n);have hz3:=Ja (intW neg m++[47]);have h1:(Ch [47])={ data:= #[47] }:=rfl;have hs1:({ data:= #[47] }:ByteArray).size=1:=rfl;rw[h1]at a1;rw[List.length_append,List.length_singleton]at hz3;clear hi e1 e2 ha hd la ld h g;have ho:decide (limbs n=[1])=decide (n=1):=by
  rw[decide_eq_decide]
  exact Hx
 rw[ho]at o
 by_cases hn1:n=1
 ·subst hn1;rw[if_pos rfl,List.append_nil];generalize intW neg m=wi at*;refine cO Tryz.func159 rfl ?_;simp -implicitDefEqProofs[jJ,-qA,-qB,-qC,-qD,-qE]
  (first|refine Ac p ?_|refine Ae p ?_)
  simp -implicitDefEqProofs[jJ,-qA,-qB,-qC,-qD,-qE]
  (first|refine Ac r ?_|refine Ae r ?_)
  simp -implicitDefEqProofs[jJ,-qA,-qB,-qC,-qD,-qE]
  (first|refine Ac o ?_|refine Ae o ?_)
  simp -implicitDefEqProofs[jJ,-qA,-qB,-qC,-qD,-qE]
  (first|refine Ac ti ?_|refine Ae ti ?_)
  simp -implicitDefEqProofs[jJ,-qA,-qB,-qC,-qD,-qE]
 ·rw[if_neg hn1]
  have hfin:Ch (intW neg m++47::Lib.decDigits n)=Ch (intW neg m)++{ data:= #[47] }++Ch (Lib.decDigits n):=by
   rw[a1,a2,List.append_assoc,List.singleton_append]
  rw[hfin]
  generalize intW neg m=wi at*;generalize Lib.decDigits n=wn at*;generalize hT1:Ch wi=T1 at*;generalize hT2:Ch wn=T2 at*;generalize hT3:Ch (wi++[47])=T3 at*;refine cO Tryz.func159 rfl ?_;simp -implicitDefEqProofs[jJ,-qA,-qB,-qC,-qD,-qE]
  (first|refine Ac p ?_|refine Ae p ?_)
  simp -implicitDefEqProofs[jJ,-qA,-qB,-qC,-qD,-qE]
  (first|refine Ac r ?_|refine Ae r ?_)
  simp -implicitDefEqProofs[jJ,-qA,-qB,-qC,-qD,-qE]
  (first|refine Ac o ?_|refine Ae o ?_)
  simp -implicitDefEqProofs[jJ,-qA,-qB,-qC,-qD,-qE,hn1];refine AA (Ah [0,1,3,7,0,16,55,127,255]) [.any [] [] (Aq [[5],[20],[21],[22],[5],[24],[25]]),.one,.one] (by rfl) ?_
  simp -implicitDefEqProofs[jJ,-qA,-qB,-qC,-qD,-qE]
  (first|refine Ac ti ?_|refine Ae ti ?_)
  simp -implicitDefEqProofs[jJ,-qA,-qB,-qC,-qD,-qE,G6,a1,hs1];refine⟨by omega,?_⟩
  (first|refine Ac tn ?_|refine Ae tn ?_)
  simp -implicitDefEqProofs[jJ,-qA,-qB,-qC,-qD,-qE,G6,a1,hs1];omega
end Go.Va
namespace Go.Va
open Go
def B(s:ByteArray):List UInt8:=s.data.toList
@[simp]theorem O9(s:ByteArray):Ch (B s)=s:=rfl
theorem Mw(l:List UInt8):B (Ch l)=l:=rfl
theorem Hg(s:ByteArray):(B s).length=s.size:=rfl
def Bc(l:List (List UInt8)):List UInt8:=Lib.join l [44,32]
theorem Mj(l:List (List UInt8))(x:List UInt8):Bc (l++[x])=(if l=[] then [] else Bc l++[44,32])++x:=by
 unfold Bc;cases l with
 |nil=>simp[Lib.join_one]
 |cons y r=>
  simp_all[if_neg,List.cons_append,Lib.join_cons,Lib.joinTail,List.append_assoc]
theorem Dn{k:Nat}: ∀l:List (List UInt8),(∀x∈l,x.length≤k)→(Bc l).length≤l.length*(k+2)
 |[],_=>by simp[Bc,Lib.join_nil]
 |x::r,h=>by
  have hx:=h x (by simp)
  have ht: ∀r:List (List UInt8),(∀x∈r,x.length≤k)→(Lib.joinTail [44,32] r).length≤r.length*(k+2):=fun r h=>by
   induction r with
   |nil=>simp[Lib.joinTail]
   |cons y r ih=>
    grind[Lib.joinTail,List.flatten_cons,List.length_append,List.length_cons,Nat.add_mul,List.length_nil]
  grind[Bc,Lib.join_cons,List.length_append,List.length_cons,Nat.add_mul]
def By(k:Int):List UInt8:=
 if k=1 then [99,111,108,108,105,110,101,97,114] else if k=2 then [112,97,114,97,108,108,101,108] else if k=3 then [112,101,114,112,101,110,100,105,99,117,108,97,114]
 else if k=4 then [99,111,110,103,114,117,101,110,116] else if k=5 then [109,105,100,112,111,105,110,116] else if k=6 then [99,111,110,99,121,99,108,105,99] else if k=7 then [97,110,103,108,101]
 else if k=8 then [115,97,109,101] else if k=9 then [114,97,116,105,111] else []
theorem IB(k:Int):(By k).length≤20:=by
 unfold By
 repeat' split
 all_goals simp
abbrev A6(ns:List ByteArray):D:=EC D.str ns
def AN(ns:List ByteArray)(a:Int):List UInt8:=B (ns.getD a.toNat ⟨#[]⟩)
theorem Er{ns:List ByteArray}(h: ∀s∈ns,s.size≤30)(a:Int):(AN ns a).length≤30:=by
 unfold AN;rw[AL];cases e:ns[a.toNat]? with
 |none=>simp[B]
 |some s=>exact h s (by grind)
def DQ(f:Fct)(ns:List ByteArray):List (List UInt8):=f.args.map (AN ns)++if f.kind=9 then [BL f.neg (val f.abs) (val f.den)] else []
def Bd(f:Fct)(ns:List ByteArray):List UInt8:=By f.kind++[40]++Bc (DQ f ns)++[41]
def A3(n:Int):List UInt8:=intW (decide (n<0)) n.natAbs
theorem jaT(n:Int):A3 n=Lib.itoa n:=by
 unfold A3 intW Lib.itoa
 grind
theorem DX{n:Int}(h0: -9223372036854775808≤n)(h1:n<9223372036854775808):(A3 n).length≤40:=by
 grind[I5,A3,intW,List.length_append]
def Bp(r:Int):List UInt8:=if r=0 then [103,105,118,101,110] else (MW r.toNat).name
theorem jbO(n:Nat):(MW n).name.length≤20:=by
 unfold MW;split<;>simp[RRul.zero]
theorem JE(r:Int):(Bp r).length≤20:=by
 unfold Bp;split
 ·simp
 ·exact jbO _
def lineE(m:Int)(x:Der):Int:=if Bp x.rule=[] then 8 else wrong x.fact m
def FD(x:Der):List UInt8:=if x.rule=0 then [32,103,105,118,101,110] else [32,98,121,32]++Bp x.rule++[32,102,114,111,109,32]++Bc (x.frm.map A3)
def Cc(ns:List ByteArray)(x:Der):List UInt8:=Bd x.fact ns++FD x
def CI(ns:List ByteArray)(i:Nat)(x:Der):List UInt8:=A3 i++[46,32]++Cc ns x
def A7(k:Int):List UInt8:=if k=1 then [100,105,115,116,105,110,99,116] else if k=2 then [116,114,105,97,110,103,108,101] else if k=3 then [99,114,111,115,115,105,110,103] else []
theorem JO(k:Int):(A7 k).length≤20:=by
 unfold A7
 repeat' split
 all_goals simp
def Bq(ns:List ByteArray)(g:Grd):List UInt8:=A7 g.kind++[40]++Bc (g.args.map (AN ns))++[41]
def CZ{α:Type}(e:α→Int):List α→Int
 |[]=>0
 |x::l=>if e x=0 then CZ e l else e x
def BV{α:Type}(e:α→Int)(l:List α)(i:Nat):Prop:=CZ e (l.drop i)=CZ e l
theorem Hi{α:Type}(e:α→Int)(l:List α):BV e l 0:=by simp[BV]
theorem OM{α:Type}{e:α→Int}{l:List α}{i:Nat}(h:i<l.length):CZ e (l.drop i)=if e l[i]=0 then CZ e (l.drop (i+1)) else e l[i]:=by
 rw[BQ h]
 rfl
theorem GK{α:Type}{e:α→Int}{l:List α}{i:Nat}(h:i<l.length)(hk:BV e l i)(h0:e l[i]=0):BV e l (i+1):=by
 simp_all[BV,OM,if_pos]
theorem FU{α:Type}{e:α→Int}{l:List α}{i:Nat}(h:i<l.length)(hk:BV e l i)(h0:e l[i]≠0):CZ e l=e l[i]:=by
 simp_all[BV,OM,if_neg]
theorem GS{α:Type}{e:α→Int}{l:List α}(hk:BV e l l.length):CZ e l=0:=by
 unfold BV at hk;rw[List.drop_length]at hk;exact hk.symm
def A1(ns:List ByteArray)(ds:List Der)(i:Nat):List UInt8:=(ds.take i).zipIdx.flatMap fun p=>CI ns p.2 p.1++[10]
theorem JJ{ns:List ByteArray}{ds:List Der}{i:Nat}(h:i<ds.length):A1 ns ds (i+1)=A1 ns ds i++(CI ns i ds[i]++[10]):=by
 grind[A1,List.take_succ_eq_append_getElem,List.length_take,Nat.min_eq_left,Nat.le_of_lt]
def Bn(ns:List ByteArray)(gs:List Grd)(i:Nat):List UInt8:=(gs.take i).flatMap fun g=>[105,102,32]++Bq ns g++[10]
theorem Ji{ns:List ByteArray}{gs:List Grd}{i:Nat}(h:i<gs.length):Bn ns gs (i+1)=Bn ns gs i++([105,102,32]++Bq ns gs[i]++[10]):=by
 grind[Bn,List.take_succ_eq_append_getElem]
def Ny(m:Int)(ds:List Der)(gs:List Grd):Int:=if CZ (lineE m) ds=0 then CZ (errG m) gs else CZ (lineE m) ds
def C4(ns:List ByteArray)(ds:List Der)(gs:List Grd):List UInt8:=A1 ns ds ds.length++Bn ns gs gs.length
def Br(e:Int)(l:List UInt8):R:= .tup [.c (.d (.str (if e=0 then Ch l else Ch []))),.c (.d (.int .i64 e))]
structure Der.Brief (x:Der):Prop where
 m:x.fact.Wide
 ln:x.fact.args.length≤20
 lf:x.frm.length≤20
 fr: ∀a∈x.frm,-9223372036854775808≤a∧a<9223372036854775808
theorem jaA{neg:Bool}{a d:List Nat}(oa:Ok a)(od:Ok d)(la:a.length≤300)(ld:d.length≤300):(BL neg (val a) (val d)).length≤2900:=by
 grind[Sq,val,Nat.le_trans,Bu,BL,List.length_append]
theorem JC{f:Fct}{ns:List ByteArray}(hm:f.Wide)(hn: ∀s∈ns,s.size≤30)(hl:f.args.length≤20):(Bd f ns).length≤4000:=by
 have h1:=Dn (k:=30) (f.args.map (AN ns)) fun l hl=>by
  obtain⟨a,_,rfl⟩:=jzk.1 hl
  exact Er hn a
 have h2:=IB f.kind;have h3:=jaA (neg:=f.neg) hm.oa hm.od hm.la hm.ld
 grind[List.length_map,Bc,DQ,Mj,List.length_append,List.length_cons,List.length_nil,Bd,List.length_singleton]
theorem PS{l:List Int}(h: ∀a∈l,-9223372036854775808≤a∧a<9223372036854775808): ∀w∈l.map A3,w.length≤40:=fun w hw=>by
 obtain⟨a,ha,rfl⟩:=jzk.1 hw
 grind[DX]
theorem Nf{x:Der}{ns:List ByteArray}(hx:x.Brief)(hn: ∀s∈ns,s.size≤30):(Cc ns x).length≤5000:=by
 have h1:=JC hx.m hn hx.ln;have h2:=Dn _ (PS hx.fr);have h3:=JE x.rule;have h4:=hx.lf
 grind[List.length_map,Cc,FD,List.length_append,List.length_cons,List.length_nil]
theorem HM{x:Der}{ns:List ByteArray}{i:Nat}(hx:x.Brief)(hn: ∀s∈ns,s.size≤30)(hi:i<100000):(CI ns i x).length≤5100:=by
 grind[Nf,DX,CI,List.length_append,List.length_cons,List.length_nil]
theorem Je{g:Grd}{ns:List ByteArray}(hn: ∀s∈ns,s.size≤30)(hl:g.args.length≤20):(Bq ns g).length≤700:=by
 have h1:=Dn (k:=30) (g.args.map (AN ns)) fun l hl=>by
  obtain⟨a,_,rfl⟩:=jzk.1 hl
  exact Er hn a
 grind[JO,List.length_map,Bq,List.length_append,List.length_singleton]
theorem FT{ds:List Der}{ns:List ByteArray}(hd: ∀x∈ds,x.Brief)(hn: ∀s∈ns,s.size≤30)(hl:ds.length≤1500): ∀i,i≤ds.length→(A1 ns ds i).length≤i*5200
 |0,_=>by simp[A1]
 |i+1,h=>by
  have h1:=FT hd hn hl i (by omega)
  grind[HM,List.getElem_mem,JJ,List.length_append,List.length_singleton]
theorem HD{gs:List Grd}{ns:List ByteArray}(hd: ∀g∈gs,g.args.length≤20)(hn: ∀s∈ns,s.size≤30): ∀i,i≤gs.length→(Bn ns gs i).length≤i*800
 |0,_=>by simp[Bn]
 |i+1,h=>by
  have h1:=HD hd hn i (by omega)
  grind[Je,List.getElem_mem,Ji,List.length_append,List.length_cons,List.length_nil]
end Go.Va
namespace Go.Va
open Go.Proofs Go.ChangeShapes Go.WideShapes Go.ChangeAt Go.RowKit
section
variable {H:Type} {enc:TypeId×Value→H} {w:World} {base:Nat} {sp:Nat→Bool} {hd:Bool}
structure InDer (x:Der):Prop where
 f:InFact x.fact
 r: ∀a∈x.frm,-9223372036854775808≤a∧a<9223372036854775808
theorem Q0(l:List ByteArray):(l.flatMap fun s=>[D.str s])=l.map D.str:=by
 induction l with
 |nil=>rfl
 |cons x l ih=>simp[ih]
theorem Xg{r:Reach}{b0:Nat}{v:Value}{d:DataW H}{p:List MemPlace}(hval:Value.okWide Tryz.prog w r b0 22 v)(h:DataW.Trod enc Tryz.prog w base sp hd 22 v d p): ∃l:List ByteArray,A.rep w Z0 (.c (A6 l)) v:=by
 obtain⟨fuel,h⟩:=h
 haveI:Inhabited ByteArray:=⟨⟨#[]⟩⟩
 obtain⟨l,u,_,e,rr⟩:=JI (n:=1) (by decide) (ds:=fun s:ByteArray=>[D.str s]) (fun _=>rfl) (Q:=fun _=>True) Tryz.underlying22 (by kernel_rfl)
  (fun {fuel cs x} h1 h2=>by
   obtain⟨s,e,_,_⟩:=DataW.trod_string Tryz.underlying9 h2
   subst e;exact⟨s,trivial,fun j x u hx hu=>by
    match j,hx,hu with
    |0,hx,hu=>cases hx;cases hu;exact .str _⟩) h
 rw[Q0]at rr
 refine⟨l,?_⟩
 unfold Value.okWide at hval;rw[Tryz.underlying22]at hval;simp only at hval;unfold Cell.okWide at hval;rw[Tryz.underlying22]at hval;have:v=u:=by
  cases v with
  |agg cs=>simp[Cell.ok,Tryz.underlying22]at hval
  |_=>simpa [Value.cells]using e
 rw[this]
 exact rr
theorem jms{r:Reach}{b0:Nat}{v:Value}{d:DataW H}{p:List MemPlace}(hval:Value.okWide Tryz.prog w r b0 9 v)(h:DataW.Trod enc Tryz.prog w base sp hd 9 v d p): ∃s:ByteArray,A.rep w Z0 (.c (.str s)) v:=by
 obtain⟨fuel,h⟩:=h
 obtain⟨s,e,_,_⟩:=DataW.trod_string Tryz.underlying9 h
 refine⟨s,?_⟩
 unfold Value.okWide at hval;rw[Tryz.underlying9]at hval;simp only at hval;unfold Cell.okWide at hval;rw[Tryz.underlying9]at hval;have:v= .string s:=by
  cases v with
  |agg cs=>simp[Cell.ok,Tryz.underlying9]at hval
  |string s'=>simp[Value.cells]at e;rw[e]
  |_=>simp[Value.cells]at e
 rw[this]
 exact .str s
end
theorem Z8{f:FuncId}{fn:Func}{s:ChangeSpec}{laid:List (String×DataW Unit)}(os:Os)(started:os.Started)(H:Type)(enc:TypeId×Value→H)(noInit:Tryz.prog.inits.idxOf? f=none)(hfn:Tryz.prog.funcs[f]? =some fn)(hvars:s.vars=[])
  (hres:fn.resultTypes= #[4]) (hts: ∀t∈fn.params.toList,Tryz.prog.readableRec t=true∧t<Tryz.prog.types.size)
  (hspec: ∀(H:Type) (ds:List (DataW H)),ds.length=fn.params.size→s.fn H ds={ results:=[.lit (.bool true)],args:=ds })
  (hgw: ∀W,W.ShapedOpen Tryz.prog→laidMetH Tryz.prog laid W→ZOk W Z0 Z0)
  (witness: ∃(w:World) (tape:Tape) (i:Input),w.os=os∧(w.forCall tape i).Shaped Tryz.prog∧i.vars=[]∧Input.okWide Tryz.prog (w.forCall tape i) .any w.heap.size f i∧
   ((s.pre enc Tryz.prog fn [] false (w.forCall tape i).memory i.args∧laidMetH Tryz.prog laid (w.forCall tape i).memory)∧sizedMet enc Tryz.prog fn (OpenSpec.ofChange s) false (w.forCall tape i).memory i.args)∧({}:Assume).holds Tryz.prog (lone (Frame.enter Tryz.prog f i.args .normal) [] (w.forCall tape i)))
  (hc: ∀(W:World) (args:Array Value) (ds:List (DataW H)) (ps:List MemPlace) (base:Nat),ZOk W Z0 Z0→(∀(j:Nat) t v,fn.params[j]? =some t→args[j]? =some v→Value.okWide Tryz.prog W .any base t v)→DataW.TrodAll enc Tryz.prog W 0 (fun _=>true) true fn.params.toList args.toList ds ps→
   Calls Tryz.prog f args W fun e W'=>e= .returned (.bool true)∧Below W.heap.size W W'):
  ReturnsInHanded {} Tryz.checked os f .any (fun w args=>(s.pre enc Tryz.prog fn [] false w args∧laidMetH Tryz.prog laid w)∧sizedMet enc Tryz.prog fn (OpenSpec.ofChange s) false w args) (s.post enc Tryz.prog fn false true false false):=by
 refine returnsInHanded_of_calls jbF started noInit witness ?_;intro w tape i _ hsh _ hok hpre hholds;obtain⟨_,_,_,fn',hfn',_,_,_,_,hval⟩:=hok;have e:fn'=fn:=Bi (hfn'.symm.trans hfn);subst e;obtain⟨⟨⟨ds,gs,before,hw,hcc⟩,hx⟩,hz⟩:=hpre;have hW:=DataW.Whole.of_heap (w':=w.forCall tape i) (by rfl) hw
 have hL:laidMetH Tryz.prog laid (w.forCall tape i):=hx.of_heap (by rfl)
 have hg:=hgw _ hsh hL;generalize w.forCall tape i=W at*;generalize i.args=args at*;have hW':=hW;obtain⟨p,q,hA,hV,rfl,hfz,hnd⟩:=hW;rw[hvars]at hV;obtain⟨rfl,rfl⟩:=trodVars_none hV;have hlen: ∀{ts:List TypeId} {vs:List Value} {ds:List (DataW H)} {ps:List MemPlace},DataW.TrodAll enc Tryz.prog W 0 (fun _=>true) true ts vs ds ps→ds.length=ts.length:=by
  intro ts
  induction ts with
  |nil=>intro vs ds ps h;obtain⟨_,rfl,_⟩:=trodAll_nil h;rfl
  |cons t ts ih=>intro vs ds ps h;obtain⟨v,vs',d,ds',p,q,rfl,rfl,rfl,h1,h2⟩:=trodAll_cons h;simp[ih h2]
 have hsp:s.fn H (ds++[])={ results:=[.lit (.bool true)],args:=ds }:=by
  rw[List.append_nil]
  exact hspec H ds (by simpa using hlen hA)
 refine(hc W args ds p _ hg hval hA).mono fun e W' ⟨he,hb⟩=> ?_
 subst he;refine ChangeSpec.post_blind ⟨ds,[],p++[],[],p,[],hW',?_,?_,?_,?_,fun h=>by cases h⟩
 ·rw[hsp,hres]
  exact trodAll_cons_mk (shut_bool Tryz.underlying4 _) trodAll_mk0
 ·rw[hsp]
  exact Tb WY hb hts hA (fun x hx=>by
   have:=hW'.lt x (by simpa using hx)
   exact this)
 ·rw[hvars,hsp];rfl
 ·exact hb.frame _
theorem jmy{f:FuncId}{xs:List A}(hc:CallsF Tryz.prog f xs (.u (.c (.d (.bool true))))){W:World}(hg:ZOk W Z0 Z0){vals:List Value}(hv:RepL (A.rep W Z0) xs vals):
  Calls Tryz.prog f vals.toArray W fun e W'=>e= .returned (.bool true)∧Below W.heap.size W W':=
 (hc.2 W Z0 vals hg hv).mono fun e W' ⟨v,h1,h2,h3⟩=>by
  obtain⟨_,o,_,h4⟩:=h3
  have h5:RepD W' (Ar (B3 0 [] o) Z0) (.bool true) v:=(h4 0).1;cases h5;exact⟨h1,h2.toBelow⟩
end Go.Va
