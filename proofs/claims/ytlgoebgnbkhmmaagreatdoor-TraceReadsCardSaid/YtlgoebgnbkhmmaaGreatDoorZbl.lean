/- a part of the proof -/
import Derived.Test.YtlgoebgnbkhmmaaGreatDoorZbc
import Derived.Test.YtlgoebgnbkhmmaaGreatDoorZbk
import Derived.Test.YtlgoebgnbkhmmaaGreatDoorZav
import Derived.Test.YtlgoebgnbkhmmaaGreatDoorZau
import Derived.Test.YtlgoebgnbkhmmaaGreatDoorZaz
import Derived.Lib.Split
set_option linter.all false
set_option maxHeartbeats 4000000
set_option maxRecDepth 10000
namespace Go.Va
open Int renaming natCast_add → qA, natCast_mul → qB, natCast_emod → qC, natCast_ediv → qD, natCast_pow → qE
open List renaming reduceReplicate → qF
open Go.Proofs
def N7(a b:List UInt8):R:= .tup [.c (.d (.str (Ch (Lib.cut a b).1))),.c (.d (.str (Ch (Lib.cut a b).2.1))),.c (.d (.bool (Lib.cut a b).2.2))]
theorem Ph(s p:ByteArray)(hs:s.size≤100000)(hp:p.size≤1000):CallsF Tryz.prog 23 [.c (.str s),.c (.str p)] (N7 (B s) (B p)):=by
 unfold N7;obtain⟨C,hC⟩: ∃C,C=Lib.cut (B s) (B p):=⟨_,rfl⟩;rw[←hC];refine cO Tryz.func23 rfl ?_;simp -implicitDefEqProofs[jJ,-qA,-qB,-qC,-qD,-qE];refine AV (fun i:Nat=>⟨[(7,vI .i64 i),(0,vC (.d (.str s))),(1,vC (.d (.str p)))],[]⟩) (fun i=>i≤s.size+1∧ ∀j,j<i→Lib.occAt (B s) (B p) j=false) (fun i=>s.size+1 - i) 0 (by simp[AW,lk,St.le,vI,vC]) ⟨by omega,fun j h=>absurd h (by omega)⟩ ?_
 rintro i ⟨hi,hn⟩
 by_cases h:i+p.size≤s.size
 ·have hle:i≤s.size:=by omega
  have hmn:i+(i+p.size - i)=i+p.size:=by omega
  rcases MK (s.extract i (i+p.size)) p with⟨e,eb⟩|⟨e,eb⟩
  ·have hc:=jmu h hn ((jb8 h).1 e);rw[hc]at hC;subst hC;simp only[O9];have hx:i+p.size+(s.size - (i+p.size))=s.size:=by omega
   simp -implicitDefEqProofs[jJ,-qA,-qB,-qC,-qD,-qE,h,hle,hmn,eb]
   repeat refine And.intro (by omega) ?_
   refine AA (Ah [0,0,3,0,0,0,32,112,248,7,1023,2047]) [.any [] [] (Aq [[0],[7],[26,27],[0],[7],[1],[31],[30,32],[29,33],[28]]),.one,.one] (by rfl) ?_
   simp -implicitDefEqProofs[jJ,-qA,-qB,-qC,-qD,-qE,h,hle,hx]
   try omega
  ·have hf:Lib.occAt (B s) (B p) i=false:=Bool.eq_false_iff.2 fun q=>e ((jb8 h).2 q)
   simp -implicitDefEqProofs[jJ,-qA,-qB,-qC,-qD,-qE,h,hle,hmn,eb];have hj: ∀j,j<i+1→Lib.occAt (B s) (B p) j=false:=fun j hj=>by
    by_cases e:j=i
    ·rw[e];exact hf
    ·exact hn j (by omega)
   repeat refine And.intro (by omega) ?_
   first|exact⟨hj,by omega⟩|omega
 ·have hc:=jjD (s:=s) (p:=p) fun j hj=>hn j (by omega)
  rw[hc]at hC
  subst hC;simp only[O9];simp -implicitDefEqProofs[jJ,-qA,-qB,-qC,-qD,-qE,h];exact⟨by omega,rfl⟩
def QA(x:ByteArray):List ByteArray→St
 |[]=>⟨[(3,vC (.sl 3 0 0)),(0,vC (.d (.str x)))],[(3,.row 1 [] true)]⟩
 |a::l=>⟨[(3,vC (.sl 3 0 (l.length+1))),(0,vC (.d (.str x)))],[(3,.row 1 (strsD (a::l)) true)]⟩
theorem WB(l:List (List UInt8)):(l.map Ch).map B=l:=by
 rw[List.map_map]
 conv=>rhs;rw[←List.map_id l]
 exact List.map_congr_left fun x _=>Mw x
theorem jfv(s:ByteArray)(hs:s.size≤100000):CallsF Tryz.prog 105 [.c (.str s)] (.u (.c (.d (A6 ((prt (B s)).map Ch))))):=by
 obtain⟨Q,hQ⟩: ∃Q,Q=(prt (B s)).map Ch:=⟨_,rfl⟩
 rw[←hQ]
 refine cO Tryz.func105 rfl ?_;simp -implicitDefEqProofs[jJ,-qA,-qB,-qC,-qD,-qE];refine CE [(3,16)] (fun x:ByteArray×List ByteArray=>QA x.1 x.2) (fun x=>x.2++(prt (B x.1)).map Ch=Q∧x.1.size+x.2.length≤s.size) (fun x=>x.1.size) (s,[]) (by simp[QA,AW,lk,St.le,vI,vC]) ⟨by rw[hQ];rfl,by simp⟩ ?_
 rintro⟨x,L⟩ ⟨h1,h2⟩
 simp only at h1 h2;have k:=Ph x { data:= #[44,32] } (by omega) (by decide)
 unfold N7 at k;rw[show B { data:= #[44,32] }=[44,32] from rfl]at k
 rw[prt]at h1
 have hr:=Vk (s:=B x) (sep:=[44,32]) (by simp)
 rw[Hg]at hr
 generalize Lib.cut (B x) [44,32]=C at*;obtain⟨a,b,o⟩:=C;simp only at*;cases o with
 |true=>
  have hr:=hr rfl;rw[dif_pos rfl,List.map_cons]at h1;cases L with
  |nil=>
   unfold QA;simp -implicitDefEqProofs[jJ,-qA,-qB,-qC,-qD,-qE]
   (first|refine Ac k ?_|refine Ae k ?_)
   simp -implicitDefEqProofs[jJ,-qA,-qB,-qC,-qD,-qE];refine⟨Ch b,[Ch a],?_,⟨by rw[Mw];exact h1,by rw[Ja];simp;omega⟩,by rw[Ja];omega⟩
   simp[QA,AW,lk,strsD,vC]
  |cons y L=>
   have e:y::L++(Ch a::(prt b).map Ch)=y::L++[Ch a]++(prt b).map Ch:=by simp
   rw[e]at h1
   unfold QA;simp -implicitDefEqProofs[jJ,-qA,-qB,-qC,-qD,-qE]
   (first|refine Ac k ?_|refine Ae k ?_)
   simp -implicitDefEqProofs[jJ,-qA,-qB,-qC,-qD,-qE];have h2':=h2;simp only[List.length_cons]at h2'
   repeat refine And.intro (by omega) ?_
   refine⟨Ch b,y::L++[Ch a],?_,⟨by rw[Mw];exact h1,by rw[Ja];simp at h2 ⊢;omega⟩,by rw[Ja];omega⟩
   simp[QA,AW,lk,strsD,vC]
 |false=>
  rw[dif_neg (by simp),List.map_cons,List.map_nil]at h1
  subst h1;cases L with
  |nil=>
   unfold QA;simp -implicitDefEqProofs[jJ,-qA,-qB,-qC,-qD,-qE]
   (first|refine Ac k ?_|refine Ae k ?_)
   simp -implicitDefEqProofs[jJ,-qA,-qB,-qC,-qD,-qE];rfl
  |cons y L=>
   unfold QA;simp -implicitDefEqProofs[jJ,-qA,-qB,-qC,-qD,-qE]
   (first|refine Ac k ?_|refine Ae k ?_)
   simp -implicitDefEqProofs[jJ,-qA,-qB,-qC,-qD,-qE,strsD];simp only[List.length_cons]at h2;refine⟨⟨by omega,by omega⟩,?_⟩
   rw[Ba (by simp)]
   simp[A6,EC]
def Fo:List ByteArray:=[{ data:= #[] },Ch (By 1),Ch (By 2),Ch (By 3),Ch (By 4),Ch (By 5),Ch (By 6),Ch (By 7),Ch (By 8),Ch (By 9)]
def plcI(w:ByteArray)(ns:List ByteArray):Int:=match F2 w ns with
 |some i=>(i:Int)
 |none=> -1
theorem jeY(ns:List ByteArray)(w:ByteArray)(hl:ns.length≤1000000):CallsF Tryz.prog 107 [.c (A6 ns),.c (.str w)] (.u (.c (.d (.int .i64 (plcI w ns))))):=by
 obtain⟨r,hr⟩: ∃r,r=plcI w ns:=⟨_,rfl⟩
 rw[←hr]
 unfold plcI at hr;unfold A6;refine cO Tryz.func107 rfl ?_;simp -implicitDefEqProofs[jJ,-qA,-qB,-qC,-qD,-qE];refine AV (fun i:Nat=>⟨[(5,vI .i64 i),(0,vC (.d (EC D.str ns))),(1,vC (.d (.str w)))],[]⟩)
  (fun i=>i≤ns.length∧F2 w ns=(F2 w (ns.drop i)).map (· +i)) (fun i=>ns.length - i) 0 (by simp[AW,lk,St.le,vI,vC]) ⟨by omega,by simp⟩ ?_
 rintro i ⟨hi,hx⟩
 by_cases hlt:i<ns.length
 ·have g0:ns[i]? =some ns[i]:=AD hlt
  rw[jgW hlt]at hx
  rcases MK ns[i] w with⟨e,eb⟩|⟨e,eb⟩
  ·rw[if_pos e]at hx
   rw[hx]at hr
   simp only[Option.map_some,Nat.zero_add]at hr;subst hr;simp -implicitDefEqProofs[jJ,-qA,-qB,-qC,-qD,-qE,hlt,g0,eb]
  ·rw[if_neg e]at hx
   simp -implicitDefEqProofs[jJ,-qA,-qB,-qC,-qD,-qE,hlt,g0,eb];exact⟨by omega,⟨by omega,by rw[hx];cases F2 w (ns.drop (i+1))<;>simp<;>omega⟩,by omega⟩
 ·rw[DU (by omega)]at hx
  have hx:F2 w ns=none:=hx
  rw[hx]at hr
  simp only at hr;subst hr;simp -implicitDefEqProofs[jJ,-qA,-qB,-qC,-qD,-qE,hlt]
theorem jmt(w:ByteArray):(if 0<plcI w Fo then plcI w Fo else 0)=Pz (B w):=by
 by_cases h:w∈Fo
 ·have key: ∀x∈Fo,(if 0<plcI x Fo then plcI x Fo else 0)=Pz (B x):=by decide+kernel
  exact key w h
 ·have hn: ∀(l:List ByteArray),w∉l→F2 w l=none:=fun l=>by
   induction l with
   |nil=>intro _;rfl
   |cons y l ih=>
    intro hl;rw[F2,if_neg (fun e=>hl (by simp[e])),ih (fun q=>hl (by simp[q]))]
    rfl
  have hk:Pz (B w)=0:=by
   have ne: ∀k:Int,Ch (By k)∈Fo→ ¬B w=By k:=fun k hk e=>h (by rw[←O9 w,e];exact hk)
   unfold Pz;rw[if_neg (ne 1 (by simp[Fo])),if_neg (ne 2 (by simp[Fo])),if_neg (ne 3 (by simp[Fo])),if_neg (ne 4 (by simp[Fo])),if_neg (ne 5 (by simp[Fo])),if_neg (ne 6 (by simp[Fo])),if_neg (ne 7 (by simp[Fo])),if_neg (ne 8 (by simp[Fo])),if_neg (ne 9 (by simp[Fo]))]
  unfold plcI;rw[hn Fo h,hk];rfl
theorem jd7(w:ByteArray):CallsF Tryz.prog 60 [.c (.str w)] (.u (.c (.d (.int .i64 (Pz (B w)))))):=by
 have k:=jeY Fo w (by decide)
 rw[←jmt]
 generalize plcI w Fo=p at*;refine cO Tryz.func60 rfl ?_;simp -implicitDefEqProofs[jJ,-qA,-qB,-qC,-qD,-qE]
 (first|refine Ac k ?_|refine Ae k ?_)
 simp -implicitDefEqProofs[jJ,-qA,-qB,-qC,-qD,-qE]
theorem joh(s:ByteArray):CallsF Tryz.prog 111 [.c (.str s)] (.u (.c (.d (.int .i64 (LZ (B s)))))):=by
 have hsz:(B s).length=s.size:=Hg s
 obtain⟨r,hr⟩: ∃r,r=LZ (B s):=⟨_,rfl⟩
 rw[←hr]
 unfold LZ at hr;refine cO Tryz.func111 rfl ?_;rcases MK s { data:= #[] } with⟨e,eb⟩|⟨e,eb⟩
 ·rw[if_pos (.inl (by rw[e];rfl))]at hr
  subst hr;simp -implicitDefEqProofs[jJ,-qA,-qB,-qC,-qD,-qE,eb]
 have h0:B s≠[]:=fun q=>e (by rw[←O9 s,q];rfl)
 by_cases h6:6<s.size
 ·rw[if_pos (.inr (by omega))]at hr
  subst hr;simp -implicitDefEqProofs[jJ,-qA,-qB,-qC,-qD,-qE,eb,h6]
 rw[if_neg (by rintro (q|q);exact h0 q;omega)]at hr
 simp -implicitDefEqProofs[jJ,-qA,-qB,-qC,-qD,-qE,eb,h6];refine AV (fun z:Nat×Nat=>⟨[(4,vI .i64 z.1),(3,vI .i64 z.2),(0,vC (.d (.str s)))],[]⟩)
  (fun z=>z.1≤s.size∧z.2=valB ((B s).take z.1)∧z.2<10^z.1∧CB KI (B s) z.1) (fun z=>s.size - z.1) (0,0) (by simp[AW,lk,St.le,vI,vC]) ⟨by omega,rfl,by simp,HJ _ _⟩ ?_
 rintro⟨i,n⟩ ⟨h1,h2,h3,h4⟩
 simp only at h1 h2 h3 h4;by_cases h:i<s.size
 ·have h':i<(B s).length:=by omega
  have gi:=SV s h;have hv:=jdt h';have hs:=fun q=>Iu h' h4 q
  have hn:=fun q=>Is h' (p:=KI) q
  have h10:10^i≤10^5:=Nat.pow_le_pow_right (by omega) (by omega)
  have hp:10^(i+1)=10^i*10:=Nat.pow_succ ..
  clear h4;generalize (B s)[i]=c at*;by_cases hd:KI c=true
  ·have hd':=hd;unfold KI at hd';simp only[AR,decide_eq_true_eq]at hd';have dn: ¬57<c.toNat:=by omega
   have dm: ¬c.toNat<48:=by omega
   have hw:((c.toNat:Int) - 48)%256=((c.toNat - 48:Nat):Int):=by omega
   have hv8:IntKind.i64.wrap ((c.toNat - 48:Nat):Int)=((c.toNat - 48:Nat):Int):=by
    simp only[IntKind.wrap,IntKind.signed,IntKind.bits];simp;omega
   simp -implicitDefEqProofs[jJ,-qA,-qB,-qC,-qD,-qE,h,gi,dn,dm,hw,hv8];exact⟨by omega,by omega,by omega,i+1,n*10+(c.toNat - 48),⟨rfl,by omega⟩,⟨by omega,by rw[hv,h2],by rw[hp];omega,hs hd⟩,by omega⟩
  ·have hd':c.toNat<48∨ ¬c.toNat<48∧57<c.toNat:=by
    unfold KI at hd;simp only[AR,decide_eq_true_eq]at hd;omega
   rw[if_neg (by rw[hn (by simpa using hd)];simp)]at hr
   subst hr;rcases hd' with d1|⟨d1,d2⟩
   ·simp -implicitDefEqProofs[jJ,-qA,-qB,-qC,-qD,-qE,h,gi,d1]
   ·simp -implicitDefEqProofs[jJ,-qA,-qB,-qC,-qD,-qE,h,gi,d1,d2]
 ·have hi2:i=(B s).length:=by omega
  subst hi2;rw[if_pos (HZ h4)]at hr;rw[BM]at h2;subst h2;subst hr;simp -implicitDefEqProofs[jJ,-qA,-qB,-qC,-qD,-qE,h]
theorem jo8{neg:Bool}{m d:Nat}(hd:0<d):sg neg (m/Nat.gcd m d)=sg neg m:=by
 have hg:0<Nat.gcd m d:=Nat.gcd_pos_of_pos_right m hd;have h:0<m/Nat.gcd m d↔0<m:=by
  constructor
  ·intro h;have:=Nat.div_le_self m (Nat.gcd m d);omega
  ·intro h;exact Nat.div_pos (Nat.le_of_dvd h (Nat.gcd_dvd_left m d)) hg
 unfold sg;simp only[h]
theorem WH(neg:Bool)(m d:Nat)(hm:(limbs m).length≤900)(hd:(limbs d).length≤900)(h0:d≠0):
  CallsF Tryz.prog 119 [.agg [.bool neg,Ad (limbs m)],.c (Ad (limbs d))] (.u (.agg (RB neg m d))):=by
 have hes:=jo8 (neg:=neg) (m:=m) (d:=d) (by omega)
 have hg0:0<Nat.gcd m d:=Nat.gcd_pos_of_pos_right m (by omega)
 have hgd:Nat.gcd m d≤d:=Nat.le_of_dvd (by omega) (Nat.gcd_dvd_right m d)
 have n1:=CM (limbs d) (Aw _) (by omega)
 have g:=Ku (limbs m) (limbs d) (Aw _) (by omega) (Aw _) (by omega)
 rw[Az,Az]at g
 unfold RB;rw[←hes];generalize Nat.gcd m d=G at*;have lg:=CG hgd;have q1:=ID (limbs m) (limbs G) (Aw _) (by omega) (Aw _) (by omega) (by rw[Az];omega)
 have q2:=ID (limbs d) (limbs G) (Aw _) (by omega) (Aw _) (by omega) (by rw[Az];omega)
 have lq:=CG (Nat.div_le_self m G);have n2:=IS neg (limbs (m/G)) (Aw _) (by omega)
 rw[Az]at n1 n2
 rw[Az,Az]at q1 q2
 have hne:limbs d≠[]:=fun h=>h0 (limbs_nil.1 h)
 refine cO Tryz.func119 rfl ?_;simp -implicitDefEqProofs[jJ,-qA,-qB,-qC,-qD,-qE]
 (first|refine Ac n1 ?_|refine Ae n1 ?_)
 simp -implicitDefEqProofs[jJ,-qA,-qB,-qC,-qD,-qE,hne]
 (first|refine Ac g ?_|refine Ae g ?_)
 simp -implicitDefEqProofs[jJ,-qA,-qB,-qC,-qD,-qE]
 (first|refine Ac q1 ?_|refine Ae q1 ?_)
 simp -implicitDefEqProofs[jJ,-qA,-qB,-qC,-qD,-qE]
 (first|refine Ac q2 ?_|refine Ae q2 ?_)
 simp -implicitDefEqProofs[jJ,-qA,-qB,-qC,-qD,-qE]
 (first|refine Ac n2 ?_|refine Ae n2 ?_)
 simp -implicitDefEqProofs[jJ,-qA,-qB,-qC,-qD,-qE,AU]
theorem Uf(neg:Bool)(m d:Nat)(hm:(limbs m).length≤900)(hd:(limbs d).length≤900)(h0:d≠0)(hg:Nat.gcd m d=1):
  CallsF Tryz.prog 132 [.agg [.bool neg,Ad (limbs m),Ad (limbs d)]] (.u (.agg [.d (.bool (sg neg m)),.d (Ad (limbs m)),.d (Ad (limbs d))])):=by
 have k:=WH neg m d hm hd h0;unfold RB at k;rw[hg,Nat.div_one,Nat.div_one]at k;refine cO Tryz.func132 rfl ?_;simp -implicitDefEqProofs[jJ,-qA,-qB,-qC,-qD,-qE]
 (first|refine Ac k ?_|refine Ae k ?_)
 simp -implicitDefEqProofs[jJ,-qA,-qB,-qC,-qD,-qE]
theorem jmY(na nb:Bool)(m d n e:Nat)(hm:(limbs m).length≤300)(hd:(limbs d).length≤300)(h0:d≠0)(hg:Nat.gcd m d=1)(hn:(limbs n).length≤300)(he:(limbs e).length≤300)(e0:e≠0)(hh:Nat.gcd n e=1):
  CallsF Tryz.prog 116 [.agg [.bool na,Ad (limbs m),Ad (limbs d)],.agg [.bool nb,Ad (limbs n),Ad (limbs e)]] (.u (.c (.d (.int .i64 (Nk (LG na m*e) (LG nb n*d)))))):=by
 refine cO Tryz.func116 rfl ?_;have b1:=Cp (limbs m) (limbs e) (Aw _) (Aw _);have b2:=Cp (limbs n) (limbs d) (Aw _) (Aw _);have m1:=Z5 (sg na m) false (limbs m) (limbs e) (Aw _) (by omega) (Aw _) (by omega) (by omega)
 have m2:=Z5 (sg nb n) false (limbs n) (limbs d) (Aw _) (by omega) (Aw _) (by omega) (by omega)
 rw[Az,Az]at m1 m2 b1 b2
 have k:=jgf (sg (sg na m) (m*e)) (sg (sg nb n) (n*d)) (limbs (m*e)) (limbs (n*d)) (Aw _) (by omega) (Aw _) (by omega)
 rw[Az,Az,QP,QP,jcw,jcw,QP,QP]at k
 simp -implicitDefEqProofs[jJ,-qA,-qB,-qC,-qD,-qE];refine AA (Ah [0,1,0,7,15,31]) [.any [] [] (Aq [[2],[5],[3]]),.one,.one,.one] (by rfl) ?_
 simp -implicitDefEqProofs[jJ,-qA,-qB,-qC,-qD,-qE]
 (first|refine Ac (Uf na m d (by omega) (by omega) h0 hg) ?_|refine Ae (Uf na m d (by omega) (by omega) h0 hg) ?_)
 simp -implicitDefEqProofs[jJ,-qA,-qB,-qC,-qD,-qE]
 (first|refine Ac (Uf nb n e (by omega) (by omega) e0 hh) ?_|refine Ae (Uf nb n e (by omega) (by omega) e0 hh) ?_)
 simp -implicitDefEqProofs[jJ,-qA,-qB,-qC,-qD,-qE];refine AA (Ah [0,1,0,4,12,31,0,64,0,256,831,2047,4095,8191]) [.any [] [] (Aq [[2],[9],[3],[11],[12],[10,13],[3],[15],[2],[17],[18]]),.one,.one,.one] (by rfl) ?_
 simp -implicitDefEqProofs[jJ,-qA,-qB,-qC,-qD,-qE]
 (first|refine Ac (jcD (limbs e)) ?_|refine Ae (jcD (limbs e)) ?_)
 simp -implicitDefEqProofs[jJ,-qA,-qB,-qC,-qD,-qE]
 (first|refine Ac m1 ?_|refine Ae m1 ?_)
 simp -implicitDefEqProofs[jJ,-qA,-qB,-qC,-qD,-qE,AU]
 (first|refine Ac (jcD (limbs d)) ?_|refine Ae (jcD (limbs d)) ?_)
 simp -implicitDefEqProofs[jJ,-qA,-qB,-qC,-qD,-qE]
 (first|refine Ac m2 ?_|refine Ae m2 ?_)
 simp -implicitDefEqProofs[jJ,-qA,-qB,-qC,-qD,-qE,AU]
 (first|refine Ac k ?_|refine Ae k ?_)
 simp -implicitDefEqProofs[jJ,-qA,-qB,-qC,-qD,-qE]
def jez:List (List Nat):=(Ah [0,0,2,7,15,15,63,127])
@[simp]def jeK:List Seg:=[.any [] [] (Aq [[7],[9],[40]]),.one,.any [] [] (Aq [[42],[42]]),.one,.one]
theorem U7{a b:ByteArray}(h:a≠b):G6 .neq a b=some (vB true):=by
 show some (vB (!(a.toList==b.toList)))=_
 rw[beq_eq_false_iff_ne.2 fun e=>h (Qe e)]
 rfl
theorem UQ(a:ByteArray):G6 .neq a a=some (vB false):=by
 show some (vB (!(a.toList==a.toList)))=_
 rw[beq_self_eq_true]
 rfl
theorem jfX(l:List UInt8)(h:l.all KI=true):valB l<10^l.length:=by
 have: ∀i,i≤l.length→valB (l.take i)<10^i:=fun i=>by
  induction i with
  |zero=>intro _;simp[valB]
  |succ i ih=>
   intro hi;have h1:=ih (by omega)
   have h2:=jzy.1 h _ (AZ (show i<l.length by omega))
   unfold KI at h2;simp only[AR,decide_eq_true_eq]at h2;rw[jdt (by omega),Nat.pow_succ]
   omega
 have:=this l.length (AO _)
 rwa [BM]at this
theorem VX(l:List UInt8):(limbs (natR l).1).length≤300:=by
 have z:(limbs 0).length≤300:=by rw[Cm];exact Nat.zero_le _
 unfold natR;split
 ·exact z
 split
 ·exact z
 split
 ·exact z
 split
 ·rename_i h1 h2 h3 h4
  refine Ew _ _ (Nat.lt_of_lt_of_le (jfX l h4) (Nat.le_trans (Nat.pow_le_pow_right (by omega) (show l.length≤1000 by omega)) ?_))
  decide+kernel
 ·exact z
theorem jhE(s:ByteArray):CallsF Tryz.prog 352 [.c (.str s)] (.tup [.agg [.d (.bool (intR (B s)).1),.d (Ad (limbs (intR (B s)).2.1))],.c (.d (.int .i64 (intR (B s)).2.2))]):=by
 have hsz:(B s).length=s.size:=Hg s
 by_cases hn:(B s).head? =some 45
 ·have ht:B (s.extract 1 s.size)=(B s).tail:=by
   rw[Mq,←hsz,BM]
   cases B s<;>rfl
  have k:=Xn (s.extract 1 s.size);have hpos:0<s.size:=by
   rw[←hsz]
   cases hb:B s with
   |nil=>rw[hb]at hn;cases hn
   |cons=>simp
  have e:s≠{ data:= #[] }:=fun q=>by rw[q]at hpos;exact absurd hpos (by decide)
  have eb:=U7 e;have g0:s[0]'hpos=45:=by
   rw[SV s hpos]
   rw[List.head?_eq_getElem?,AD (by omega)]at hn
   exact Bi hn
  have hx:1+(s.size - 1)=s.size:=by omega
  unfold intR;simp only[hn,decide_true,if_true];rw[ht]at k;clear ht;generalize (B s).tail=l at*;obtain⟨n,e,hne⟩: ∃n e,natR l=(n,e):=⟨_,_,rfl⟩;rw[hne]at k ⊢;simp only at k ⊢;have km:=jev true n;have hl:= @SG n;have hp:= @limbs_pos_len n;by_cases he:e=0
  ·subst he;by_cases h0:n=0
   ·subst h0;refine cO Tryz.func352 rfl ?_;simp -implicitDefEqProofs[jJ,-qA,-qB,-qC,-qD,-qE,eb,g0,hpos,hx];refine⟨by omega,?_⟩
    (first|refine Ac k ?_|refine Ae k ?_)
    simp -implicitDefEqProofs[jJ,-qA,-qB,-qC,-qD,-qE,Cm];rfl
   ·have hd:decide (0<n)=true:=by simp;omega
    have hz: ¬(limbs n).length=0:=fun q=>h0 (hl.1 q)
    unfold AU sg at km;rw[hd]at km;refine cO Tryz.func352 rfl ?_;simp -implicitDefEqProofs[jJ,-qA,-qB,-qC,-qD,-qE,eb,g0,hpos,hx];refine⟨by omega,?_⟩
    (first|refine Ac k ?_|refine Ae k ?_)
    simp -implicitDefEqProofs[jJ,-qA,-qB,-qC,-qD,-qE,hz,h0]
    (first|refine Ac km ?_|refine Ae km ?_)
    simp -implicitDefEqProofs[jJ,-qA,-qB,-qC,-qD,-qE,h0]
  ·refine cO Tryz.func352 rfl ?_;simp -implicitDefEqProofs[jJ,-qA,-qB,-qC,-qD,-qE,eb,g0,hpos,hx];refine⟨by omega,?_⟩
   (first|refine Ac k ?_|refine Ae k ?_)
   simp -implicitDefEqProofs[jJ,-qA,-qB,-qC,-qD,-qE,he];rfl
 ·have k:=Xn s;unfold intR;simp only[hn,decide_false,if_false,Bool.false_eq_true,false_and];generalize hq:natR (B s)=q at*;obtain⟨n,e⟩:=q;simp only at k ⊢;have km:=jev false n;unfold AU sg at km;by_cases h0:s={ data:= #[] }
  ·subst h0;have eb:=UQ { data:= #[] };have:e=10:=by
    have:=congrArg (·.2) hq
    exact this.symm
   subst this;refine cO Tryz.func352 rfl ?_;simp -implicitDefEqProofs[jJ,-qA,-qB,-qC,-qD,-qE,eb]
   (first|refine Ac k ?_|refine Ae k ?_)
   simp -implicitDefEqProofs[jJ,-qA,-qB,-qC,-qD,-qE];rfl
  ·have eb:=U7 h0;have hpos:0<s.size:=by
    rw[←hsz]
    cases hb:B s with
    |nil=>exact absurd (by rw[←O9 s,hb];rfl) h0
    |cons=>simp
   have g0: ¬(s[0]'hpos).toNat=45:=by
    rw[SV s hpos]
    rw[List.head?_eq_getElem?,AD (by omega)]at hn
    exact fun q=>hn (congrArg some (UInt8.toNat_inj.1 q))
   by_cases he:e=0
   ·subst he;refine cO Tryz.func352 rfl ?_;simp -implicitDefEqProofs[jJ,-qA,-qB,-qC,-qD,-qE,eb,g0,hpos]
    (first|refine Ac k ?_|refine Ae k ?_)
    simp -implicitDefEqProofs[jJ,-qA,-qB,-qC,-qD,-qE]
    (first|refine Ac km ?_|refine Ae km ?_)
    simp -implicitDefEqProofs[jJ,-qA,-qB,-qC,-qD,-qE]
   ·refine cO Tryz.func352 rfl ?_;simp -implicitDefEqProofs[jJ,-qA,-qB,-qC,-qD,-qE,eb,g0,hpos]
    (first|refine Ac k ?_|refine Ae k ?_)
    simp -implicitDefEqProofs[jJ,-qA,-qB,-qC,-qD,-qE,he];rfl
theorem je0(l:List UInt8):(limbs (intR l).2.1).length≤300:=by
 have z:(limbs 0).length≤300:=by rw[Cm];exact Nat.zero_le _
 have h:=VX (if decide (l.head? =some 45)=true then l.tail else l);unfold intR;simp only;generalize natR (if decide (l.head? =some 45)=true then l.tail else l)=d at*;split
 ·exact z
 split
 ·exact z
 ·exact h
theorem jhT(na nb:Bool)(a d:Nat)(ha:(limbs a).length≤900)(hd:(limbs d).length≤900):
  CallsF Tryz.prog 354 [.agg [.bool na,Ad (limbs a)],.agg [.bool nb,Ad (limbs d)]]
   (if d=0 then .tup [.agg [.d (.bool false),.d (Ad []),.d (Ad [])],.c (.d (.int .i64 3))]
   else .tup [.agg (RB (!decide (na=nb)) a d),.c (.d (.int .i64 0))]):=by
 have s1:=HS nb (limbs d) (Aw _) (by omega)
 rw[Az]at s1
 by_cases h0:d=0
 ·rw[if_pos h0]
  refine cO Tryz.func354 rfl ?_;simp -implicitDefEqProofs[jJ,-qA,-qB,-qC,-qD,-qE]
  (first|refine Ac s1 ?_|refine Ae s1 ?_)
  simp -implicitDefEqProofs[jJ,-qA,-qB,-qC,-qD,-qE,Zd,h0];rfl
 ·rw[if_neg h0]
  have r:=W8 (!decide (na=nb)) (limbs a) (limbs d) (Aw _) ha (Aw _) hd (by rw[Az];exact h0)
  rw[Az,Az]at r
  unfold RB at*;refine cO Tryz.func354 rfl ?_;simp -implicitDefEqProofs[jJ,-qA,-qB,-qC,-qD,-qE]
  (first|refine Ac s1 ?_|refine Ae s1 ?_)
  simp -implicitDefEqProofs[jJ,-qA,-qB,-qC,-qD,-qE,Zd,h0]
  (first|refine Ac r ?_|refine Ae r ?_)
  simp -implicitDefEqProofs[jJ,-qA,-qB,-qC,-qD,-qE]
theorem jfC: ∀l:List UInt8,LW l=((Lib.cut l [47]).1,if (Lib.cut l [47]).2.2=true then some (Lib.cut l [47]).2.1 else none)
 |[]=>rfl
 |c::l=>by
  have ih:=jfC l;unfold Lib.cut at*;rw[LW];by_cases h:c=47
  ·subst h;have:Lib.index (47::l) [47]=0:=Lib.index_first (i:=0) (Nat.zero_le _) (by simp[Lib.occAt]) fun j hj=>absurd hj (Nat.not_lt_zero _)
   rw[this]
   simp
  ·have hi:Lib.index (c::l) [47]=if Lib.index l [47]== -1 then -1 else Lib.index l [47]+1:=by
    have:=Lib.index_drop (s:=c::l) (sub:=[47]) (i:=1) (fun j hj=>by
     have:j=0:=by omega
     subst this;have e:((47:UInt8)==c)=false:=beq_eq_false_iff_ne.2 (Ne.symm h);simp[Lib.occAt,List.isPrefixOf,e]) (by simp)
    simpa using this
   have hg:=Lib.index_ge l [47];rw[if_neg h,ih,hi];by_cases hm:Lib.index l [47]= -1
   ·rw[hm];simp
   ·have h0:0≤Lib.index l [47]:=by omega
    obtain⟨n,hn⟩:=Int.eq_ofNat_of_zero_le h0
    rw[hn]
    have e1:((n:Int)== -1)=false:=by simp
    have e2:((n:Int)+1).toNat=n+1:=by omega
    have e3:(0:Int)≤n+1:=by omega
    rw[e1]
    have e4:(0:Int)≤n:=by omega
    simp only[Bool.false_eq_true,if_false,if_pos e3,if_pos e4,e2,Int.toNat_natCast,if_true];rw[Nat.add_right_comm];rfl
theorem jhj(s:ByteArray)(hs:s.size<4294967281):CallsF Tryz.prog 257 [.c (.str s)]
  (.tup [.agg [.d (.bool (M8 (B s)).1),.d (Ad (limbs (M8 (B s)).2.1)),.d (Ad (limbs (M8 (B s)).2.2.1))],.c (.d (.int .i64 (M8 (B s)).2.2.2))]):=by
 have kc:=UT s { data:= #[47] } hs;rw[show s.data.toList=B s from rfl,show({ data:= #[47] }:ByteArray).data.toList=[47] from rfl]at kc
 unfold M8;rw[jfC];obtain⟨p,q,b,hc⟩: ∃p q b,Lib.cut (B s) [47]=(p,q,b):=⟨_,_,_,rfl⟩;rw[hc]at kc ⊢;simp only[List.map_cons,List.map_nil]at kc ⊢;have ki:=jhE ⟨p.toArray⟩;have kn:=Xn ⟨q.toArray⟩;have hip:=je0 p;have hnq:=VX q;rw[show B ⟨p.toArray⟩=p from rfl]at ki
 rw[show B ⟨q.toArray⟩=q from rfl]at kn
 generalize (⟨p.toArray⟩:ByteArray)=P at*;generalize (⟨q.toArray⟩:ByteArray)=Q at*;have hr:Oj p (if b=true then some q else none)=if (intR p).2.2≠0 then (false,0,0,(intR p).2.2) else if b=true then (if (natR q).2≠0 then (false,0,0,(natR q).2) else if (natR q).1=0 then (false,0,0,3) else O7 (intR p).1 (intR p).2.1 (natR q).1) else O7 (intR p).1 (intR p).2.1 1:=by
  cases b<;>rfl
 rw[hr]
 unfold O7;clear hr;generalize intR p=ip at*;generalize natR q=nq at*;obtain⟨neg,n,e⟩:=ip;obtain⟨d,e2⟩:=nq;simp only at ki kn hip hnq ⊢;have ku:=Ir;have kr:=W8 neg (limbs n) [1] (Aw _) (by omega) (Ok.nil.cons (by omega)) (by decide) (by decide)
 rw[Az,show val [1]=1 from rfl]at kr
 have kw:=jmo (limbs d);have km:=jhT neg false n d (by omega) (by omega)
 unfold RB at*;by_cases he:e=0
 ·subst he;cases b with
  |false=>
   refine cO Tryz.func257 rfl ?_;simp -implicitDefEqProofs[jJ,-qA,-qB,-qC,-qD,-qE]
   (first|refine Ac kc ?_|refine Ae kc ?_)
   simp -implicitDefEqProofs[jJ,-qA,-qB,-qC,-qD,-qE]
   (first|refine Ac ki ?_|refine Ae ki ?_)
   simp -implicitDefEqProofs[jJ,-qA,-qB,-qC,-qD,-qE];refine AA (Ah [0,0,3,7,15]) [.any [] [] (Aq [[7],[]]),.one,.one,.one] (by rfl) ?_
   simp -implicitDefEqProofs[jJ,-qA,-qB,-qC,-qD,-qE]
   (first|refine Ac ku ?_|refine Ae ku ?_)
   simp -implicitDefEqProofs[jJ,-qA,-qB,-qC,-qD,-qE]
   (first|refine Ac kr ?_|refine Ae kr ?_)
   simp -implicitDefEqProofs[jJ,-qA,-qB,-qC,-qD,-qE]
  |true=>
   by_cases he2:e2=0
   ·subst he2;by_cases d0:d=0
    ·rw[if_pos d0]at km
     refine cO Tryz.func257 rfl ?_;simp -implicitDefEqProofs[jJ,-qA,-qB,-qC,-qD,-qE]
     (first|refine Ac kc ?_|refine Ae kc ?_)
     simp -implicitDefEqProofs[jJ,-qA,-qB,-qC,-qD,-qE]
     (first|refine Ac ki ?_|refine Ae ki ?_)
     simp -implicitDefEqProofs[jJ,-qA,-qB,-qC,-qD,-qE]
     (first|refine Ac kn ?_|refine Ae kn ?_)
     simp -implicitDefEqProofs[jJ,-qA,-qB,-qC,-qD,-qE];refine AA jez jeK (by rfl) ?_
     simp -implicitDefEqProofs[jJ,-qA,-qB,-qC,-qD,-qE]
     (first|refine Ac kw ?_|refine Ae kw ?_)
     simp -implicitDefEqProofs[jJ,-qA,-qB,-qC,-qD,-qE]
     (first|refine Ac km ?_|refine Ae km ?_)
     simp -implicitDefEqProofs[jJ,-qA,-qB,-qC,-qD,-qE,d0];rfl
    ·rw[if_neg d0]at km
     have hs:(!decide (neg=false))=neg:=by cases neg<;>rfl
     rw[hs]at km
     refine cO Tryz.func257 rfl ?_;simp -implicitDefEqProofs[jJ,-qA,-qB,-qC,-qD,-qE]
     (first|refine Ac kc ?_|refine Ae kc ?_)
     simp -implicitDefEqProofs[jJ,-qA,-qB,-qC,-qD,-qE]
     (first|refine Ac ki ?_|refine Ae ki ?_)
     simp -implicitDefEqProofs[jJ,-qA,-qB,-qC,-qD,-qE]
     (first|refine Ac kn ?_|refine Ae kn ?_)
     simp -implicitDefEqProofs[jJ,-qA,-qB,-qC,-qD,-qE];refine AA jez jeK (by rfl) ?_
     simp -implicitDefEqProofs[jJ,-qA,-qB,-qC,-qD,-qE]
     (first|refine Ac kw ?_|refine Ae kw ?_)
     simp -implicitDefEqProofs[jJ,-qA,-qB,-qC,-qD,-qE]
     (first|refine Ac km ?_|refine Ae km ?_)
     simp -implicitDefEqProofs[jJ,-qA,-qB,-qC,-qD,-qE,d0]
   ·refine cO Tryz.func257 rfl ?_;simp -implicitDefEqProofs[jJ,-qA,-qB,-qC,-qD,-qE]
    (first|refine Ac kc ?_|refine Ae kc ?_)
    simp -implicitDefEqProofs[jJ,-qA,-qB,-qC,-qD,-qE]
    (first|refine Ac ki ?_|refine Ae ki ?_)
    simp -implicitDefEqProofs[jJ,-qA,-qB,-qC,-qD,-qE]
    (first|refine Ac kn ?_|refine Ae kn ?_)
    simp -implicitDefEqProofs[jJ,-qA,-qB,-qC,-qD,-qE,he2];rfl
 ·refine cO Tryz.func257 rfl ?_;simp -implicitDefEqProofs[jJ,-qA,-qB,-qC,-qD,-qE]
  (first|refine Ac kc ?_|refine Ae kc ?_)
  simp -implicitDefEqProofs[jJ,-qA,-qB,-qC,-qD,-qE]
  (first|refine Ac ki ?_|refine Ae ki ?_)
  simp -implicitDefEqProofs[jJ,-qA,-qB,-qC,-qD,-qE,he];rfl
theorem jhL(ns:List ByteArray)(s:Ps)(h:s.l.length=s.p.length)(hs: ∀w∈s.l,w.size<4294967281):
  PC 177 [] ns s s.num.2 (.u (.agg [.d (.bool s.num.1.1),.d (Ad (limbs s.num.1.2.1)),.d (Ad (limbs s.num.1.2.2))])):=by
 have k1:=X4 ns s;have k3:=UA ns s;cases hw:s.word with
 |none=>
  have hnum:s.num=((false,0,0),s.fail 5):=by unfold Ps.num;rw[hw]
  rw[hnum]
  unfold PC;refine Z3 [] (T:=tb) Ak mixed Tryz.func177 rfl (by decide) (Al rfl) (Al rfl) rfl rfl (H9 _ _) (H9 _ _) ?_;unfold St.initG St.initH
  unfold AQ L7 Ps.wordS at*;rw[hw]at k1;simp only[Cm];simp -implicitDefEqProofs[jJ,-qA,-qB,-qC,-qD,-qE];refine .inr (Dc k1 rfl (fun x r e=>by cases e) rfl ?_)
  simp -implicitDefEqProofs[jJ,-qA,-qB,-qC,-qD,-qE,AQ,St.backH,St.on,Fs,GM,C.same,V.on,U.on,C.on];exact TZ (.inl rfl) rfl rfl rfl rfl rfl
 |some w=>
  obtain⟨h0,l,hl⟩:=Ps.word_some hw
  have kr:=jhj w (hs w (by rw[hl];simp))
  obtain⟨neg,m,d,e,hq⟩: ∃neg m d e,M8 (B w)=(neg,m,d,e):=⟨_,_,_,_,rfl⟩
  rw[hq]at kr
  simp only at kr;have k2:=P3 ns s e;by_cases he:e=0
  ·subst he;have hnum:s.num=((neg,m,d),s.pass):=by unfold Ps.num;rw[hw];simp only[hq,if_true]
   rw[hnum]
   unfold PC;refine Z3 [] (T:=tb) Ak mixed Tryz.func177 rfl (by decide) (Al rfl) (Al rfl) rfl rfl (H9 _ _) (H9 _ _) ?_;unfold St.initG St.initH
   unfold AQ L7 Ps.wordS at*;rw[hw]at k1;simp -implicitDefEqProofs[jJ,-qA,-qB,-qC,-qD,-qE];refine .inr (Dc k1 rfl (fun x r e=>by cases e) rfl ?_)
   simp -implicitDefEqProofs[jJ,-qA,-qB,-qC,-qD,-qE,AQ,St.backH,St.on,Fs,GM,C.same,V.on,U.on,C.on]
   (first|refine Ac kr ?_|refine Ae kr ?_)
   simp -implicitDefEqProofs[jJ,-qA,-qB,-qC,-qD,-qE];refine .inr (Dc (k3 (by rw[hl];simp) (fun e=>by rw[e,hl]at h;cases h)) rfl (fun x r e=>by cases e) rfl ?_)
   simp -implicitDefEqProofs[jJ,-qA,-qB,-qC,-qD,-qE,AQ,St.backH,St.on,Fs,GM,C.same,V.on,U.on,C.on];exact TZ (.inl rfl) rfl rfl rfl rfl rfl
  ·have hnum:s.num=((false,0,0),s.fail e):=by unfold Ps.num;rw[hw];simp only[hq,if_neg he]
   rw[hnum]
   unfold PC;refine Z3 [] (T:=tb) Ak mixed Tryz.func177 rfl (by decide) (Al rfl) (Al rfl) rfl rfl (H9 _ _) (H9 _ _) ?_;unfold St.initG St.initH
   unfold AQ L7 Ps.wordS at*;rw[hw]at k1;simp only[Cm];simp -implicitDefEqProofs[jJ,-qA,-qB,-qC,-qD,-qE];refine .inr (Dc k1 rfl (fun x r e=>by cases e) rfl ?_)
   simp -implicitDefEqProofs[jJ,-qA,-qB,-qC,-qD,-qE,AQ,St.backH,St.on,Fs,GM,C.same,V.on,U.on,C.on]
   (first|refine Ac kr ?_|refine Ae kr ?_)
   simp -implicitDefEqProofs[jJ,-qA,-qB,-qC,-qD,-qE,he];refine .inr (Dc k2 rfl (fun x r e=>by cases e) rfl ?_)
   simp -implicitDefEqProofs[jJ,-qA,-qB,-qC,-qD,-qE,AQ,St.backH,St.on,Fs,GM,C.same,V.on,U.on,C.on];exact TZ (.inl rfl) rfl rfl rfl rfl rfl
end Go.Va
