/- a part of the proof -/
import Derived.Test.YtlgoebgnbkhmmaaGreatDoorZbm
import Derived.Test.YtlgoebgnbkhmmaaGreatDoorZbn
import Derived.Test.YtlgoebgnbkhmmaaGreatDoorZbo
set_option linter.all false
set_option maxHeartbeats 1500000
set_option maxRecDepth 10000
namespace Go.Va
open Int renaming natCast_add → qA, natCast_mul → qB, natCast_emod → qC, natCast_ediv → qD, natCast_pow → qE
open List renaming reduceReplicate → qF
open Go.Proofs
def jfS:List (List Nat):=(Ah [0,0,0,1,11,31,63])
@[simp]def jcT:List Seg:=[.any [] [] (Aq [[8],[15],[12],[88],[89]]),.one,.one]
def SK(ns:List ByteArray)(x:List UInt8):Option Int:=(F2 (Ch x) ns).map fun(n:Nat)=>(n:Int)
theorem jiV(ns:List ByteArray)(w:ByteArray):(SK ns (B w)=none∧plcI w ns= -1)∨ ∃n:Nat,SK ns (B w)=some (n:Int)∧plcI w ns=n:=by
 unfold SK plcI;rw[O9];cases F2 w ns with
 |none=>exact .inl ⟨rfl,rfl⟩
 |some n=>exact .inr ⟨n,rfl,rfl⟩
theorem jnM{f:List UInt8→Option Int}{l:List ByteArray}{i:Nat}(h:i<l.length){L:List Int}(hL:((l.take i).map B).mapM f=some L):((l.take (i+1)).map B).mapM f=(f (B l[i])).map fun n=>L++[n]:=by
 rw[Cr h,List.map_append,R6,hL]
 simp only[List.map_cons,List.map_nil,List.mapM_cons,List.mapM_nil,Option.bind_some];cases f (B l[i])<;>rfl
theorem jl5{f:List UInt8→Option Int}{l:List ByteArray}{i:Nat}(h:((l.take i).map B).mapM f=none):(l.map B).mapM f=none:=by
 rw[←List.take_append_drop i l,List.map_append,R6,h]
 rfl
def L3:Option (List UInt8×List Int×(Bool×Nat×Nat))→R
 |none=> .tup [.c (.d (.str { data:= #[] })),.c (.d (.slice 0 [])),.agg [.d (.bool false),.d (.slice 0 []),.d (.slice 0 [])],.c (.d (.bool false))]
 |some q=> .tup [.c (.d (.str (Ch q.1))),.c (.d (AT q.2.1)),.agg [.d (.bool q.2.2.1),.d (Ad (limbs q.2.2.2.1)),.d (Ad (limbs q.2.2.2.2))],.c (.d (.bool true))]
def Ow(w:ByteArray)(ns l:List ByteArray)(cs:List C):Nat→List Int→St
 |0,_=>⟨[(16,vI .i64 0),(15,vC (.sl 15 0 0)),(11,vC (.d (A6 l))),(8,vC (.d (.str w))),(12,vC (.ptr 12 0)),(6,vC (.ptr 6 0)),(1,vC (.d (A6 ns)))],[(15,.row 1 [] true),(12,.box cs),(6,.box [.d (.bool false),.nl,.nl])]⟩
 |i+1,L=>⟨[(16,vI .i64 ((i+1:Nat):Int)),(15,vC (.sl 15 0 L.length)),(11,vC (.d (A6 l))),(8,vC (.d (.str w))),(12,vC (.ptr 12 0)),(6,vC (.ptr 6 0)),(1,vC (.d (A6 ns)))],[(15,.row 1 (L.map i64) true),(12,.box cs),(6,.box [.d (.bool false),.nl,.nl])]⟩
theorem jiu(t:List UInt8)(c:UInt8):(Ch (t++[c])).size=t.length+1∧(Ch (t++[c])).extract 0 t.length=Ch t:=by
 refine⟨by rw[Ja];simp,T9 ?_⟩
 rw[Mq,List.drop_zero,Mw,Mw,List.take_left]
theorem jmw(t:List UInt8)(c:UInt8)(h:t.length<(Ch (t++[c])).size):(Ch (t++[c]))[t.length]'h=c:=by
 rw[SV _ h]
 have:(B (Ch (t++[c])))[t.length]? =some c:=by rw[Mw];simp
 exact(jzg.1 this).2
theorem Xj(s:List UInt8):(prt s).length≤s.length+1∧ ∀x∈prt s,x.length≤s.length:=by
 induction hk:s.length using Nat.strongRecOn generalizing s with
 |ind k ih=>
  have hlt:=Vk (s:=s) (sep:=[44,32]) (by simp)
  have j:=P8 (s:=s) (sep:=[44,32]);have hm:(Lib.cut s [44,32]).2.2=false→(Lib.cut s [44,32]).1=s:=fun h=>by
   unfold Lib.cut at*;split at h
   ·cases h
   ·rename_i h1;rw[if_neg h1]
  rw[prt]
  by_cases h:(Lib.cut s [44,32]).2.2=true
  ·have hlt:=hlt h;have j:=congrArg List.length (j h);simp only[List.length_append,List.length_cons,List.length_nil]at j;rw[dif_pos h];obtain⟨i1,i2⟩:=ih _ (by omega) (Lib.cut s [44,32]).2.1 rfl
   refine⟨by rw[List.length_cons];omega,fun x hx=> ?_⟩
   rcases jzn.1 hx with rfl|hx
   ·omega
   ·have:=i2 x hx;omega
  ·rw[dif_neg h,hm (by simpa using h)]
   exact⟨by simp,fun x hx=>by rw[List.mem_singleton.1 hx];omega⟩
theorem jfk(ns:List ByteArray)(hl:ns.length≤60)(s:ByteArray)(hs:s.size≤20000):CallsF Tryz.prog 57 [.c (.str s),.c (A6 ns)] (L3 (FM ns (B s))):=by
 obtain⟨F,hF⟩: ∃F,F=FM ns (B s):=⟨_,rfl⟩
 rw[←hF]
 unfold FM at hF;simp only at hF;have kc:=Ph s { data:= #[40] } (by omega) (by decide)
 unfold N7 at kc;rw[show B { data:= #[40] }=[40] from rfl]at kc
 have j:=P8 (s:=B s) (sep:=[40]);generalize Lib.cut (B s) [40]=C at*;obtain⟨w,rest,o⟩:=C;simp only at*;cases o with
 |false=>
  rw[if_pos (.inl rfl)]at hF
  subst hF;unfold L3;refine cO Tryz.func57 rfl ?_;simp -implicitDefEqProofs[jJ,-qA,-qB]
  (first|refine Ac kc ?_|refine Ae kc ?_)
  simp -implicitDefEqProofs[jJ,-qA,-qB]
 |true=>
 have j:=congrArg List.length (j rfl);simp only[List.length_append,List.length_cons,List.length_nil,Hg]at j;rcases List.eq_nil_or_concat rest with h0|⟨t,c,h0⟩
 ·subst h0;rw[if_pos (.inr (.inl rfl))]at hF;subst hF;have eb:G6 .eql (Ch []) { data:= #[] }=some (vB true):=Gw _;unfold L3;refine cO Tryz.func57 rfl ?_;simp -implicitDefEqProofs[jJ,-qA,-qB]
  (first|refine Ac kc ?_|refine Ae kc ?_)
  simp -implicitDefEqProofs[jJ,-qA,-qB,eb]
 try rw[List.concat_eq_append]at h0
 subst h0;rw[List.length_append,List.length_singleton]at j;obtain⟨hz,hx⟩:=jiu t c;have hg:=jmw t c (by omega)
 have eb:G6 .eql (Ch (t++[c])) { data:= #[] }=some (vB false):=IY (fun e=>by have:=congrArg ByteArray.size e;rw[hz]at this;exact absurd this (by show ¬(t.length+1=0);omega))
 rw[List.getLast?_concat,List.dropLast_concat]at hF
 by_cases hc:c=41
 case neg=>
  rw[if_pos (.inr (.inr (by simpa using hc)))]at hF
  subst hF;have hc2: ¬c.toNat=41:=fun q=>hc (UInt8.toNat_inj.1 q)
  unfold L3;refine cO Tryz.func57 rfl ?_;simp -implicitDefEqProofs[jJ,-qA,-qB]
  (first|refine Ac kc ?_|refine Ae kc ?_)
  simp -implicitDefEqProofs[jJ,-qA,-qB,eb,hz,hg,hc2];omega
 rw[if_neg (by simp[hc])]at hF
 have hc2:c.toNat=41:=by rw[hc];rfl
 have kp:=jfv (Ch t) (by rw[Ja];omega)
 rw[Mw]at kp
 obtain⟨q1,q2⟩:=Xj t
 have q3:=XP t;generalize prt t=P at*;have hR:(({ data:= #[114,97,116,105,111] }:ByteArray))=Ch (By 9):=rfl;generalize hT:Ch t=T at*;by_cases h9:w=By 9
 case' pos=>
  rw[if_pos h9]at hF
  have e9:G6 .eql (Ch w) { data:= #[114,97,116,105,111] }=some (vB true):=by rw[h9];exact Gw _
  obtain⟨l0,x,hP⟩:=(List.eq_nil_or_concat P).resolve_left q3
  try rw[List.concat_eq_append]at hP
  have hx2:=q2 x (by rw[hP];simp)
  have kr:=jpf (Ch x) (by rw[Ja];omega)
  rw[Mw]at kr
  rw[hP,List.getLast?_concat,Option.getD_some,List.dropLast_concat]at hF
  have hlen:(P.map Ch).length=l0.length+1:=by rw[hP];simp
  have hat:(P.map Ch)[l0.length]? =some (Ch x):=by rw[hP];simp
  have htk:(P.map Ch).take l0.length=l0.map Ch:=by rw[hP,List.map_append,List.take_append_of_le_length (by simp),Ba (by simp)]
  have hl0:l0.length≤20000:=by
   have h:=q1;rw[hP,List.length_append,List.length_singleton]at h;omega
  obtain⟨Lp,hLp⟩: ∃Lp,Lp=P.map Ch:=⟨_,rfl⟩
  rw[←hLp]at hlen hat htk kp
  have hat2:Lp[l0.length]'(by omega)=Ch x:=(jzg.1 hat).2
  generalize M8 x=Q at*;obtain⟨b,m,d,e⟩:=Q;simp only at hF kr;by_cases he:e=0
  case neg=>
   rw[if_pos he]at hF
   subst hF;unfold L3;refine cO Tryz.func57 rfl ?_;simp -implicitDefEqProofs[jJ,-qA,-qB]
   (first|refine Ac kc ?_|refine Ae kc ?_)
   simp -implicitDefEqProofs[jJ,-qA,-qB,eb,hz,hg,hc2,hx]
   repeat refine And.intro (by omega) ?_
   (first|refine Ac kp ?_|refine Ae kp ?_)
   simp -implicitDefEqProofs[jJ,-qA,-qB,e9,hlen,hat2]
   repeat refine And.intro (by omega) ?_
   (first|refine Ac kr ?_|refine Ae kr ?_)
   simp -implicitDefEqProofs[jJ,-qA,-qB,he]
  rw[if_neg (by simpa using he)]at hF
  subst he;obtain⟨l,hll⟩: ∃l,l=l0.map Ch:=⟨_,rfl⟩;have hF:F=((l.map B).mapM (SK ns)).map fun a=>(w,a,(b,m,d)):=by rw[hF,hll,WB];rfl
  have hln:l.length≤20000:=by rw[hll,List.length_map];rw[hP]at q1;simp at q1;omega
  rw[←hll]at htk
  obtain⟨cs,hcs⟩: ∃cs:List C,cs=[.d (.bool b),.d (Ad (limbs m)),.d (Ad (limbs d))]:=⟨_,rfl⟩
  refine cO Tryz.func57 rfl ?_;simp -implicitDefEqProofs[jJ,-qA,-qB]
  (first|refine Ac kc ?_|refine Ae kc ?_)
  simp -implicitDefEqProofs[jJ,-qA,-qB,eb,hz,hg,hc2,hx]
  repeat refine And.intro (by omega) ?_
  (first|refine Ac kp ?_|refine Ae kp ?_)
  simp -implicitDefEqProofs[jJ,-qA,-qB,e9,hlen,hat2]
  repeat refine And.intro (by omega) ?_
  (first|refine Ac kr ?_|refine Ae kr ?_)
  simp -implicitDefEqProofs[jJ,-qA,-qB,htk]
 case' neg=>
  rw[if_neg h9]at hF
  have e9:G6 .eql (Ch w) { data:= #[114,97,116,105,111] }=some (vB false):=IY (fun e=>h9 (by have:=congrArg B e;exact this))
  obtain⟨b,hb⟩: ∃b,b=false:=⟨_,rfl⟩
  obtain⟨m,hm⟩: ∃m,m=0:=⟨_,rfl⟩
  obtain⟨d,hd⟩: ∃d,d=0:=⟨_,rfl⟩
  obtain⟨l,hll⟩: ∃l,l=P.map Ch:=⟨_,rfl⟩
  have hF:F=((l.map B).mapM (SK ns)).map fun a=>(w,a,(b,m,d)):=by rw[hF,hll,WB,hb,hm,hd];rfl
  have hln:l.length≤20000:=by rw[hll,List.length_map];omega
  rw[←hll]at kp
  obtain⟨cs,hcs⟩: ∃cs:List C,cs=[.d (.bool false),.nl,.nl]:=⟨_,rfl⟩
  refine cO Tryz.func57 rfl ?_;simp -implicitDefEqProofs[jJ,-qA,-qB]
  (first|refine Ac kc ?_|refine Ae kc ?_)
  simp -implicitDefEqProofs[jJ,-qA,-qB,eb,hz,hg,hc2,hx]
  repeat refine And.intro (by omega) ?_
  (first|refine Ac kp ?_|refine Ae kp ?_)
  simp -implicitDefEqProofs[jJ,-qA,-qB,e9]
 all_goals
  repeat refine And.intro (by omega) ?_
  refine CE [(15,87)] (fun x:Nat×List Int=>Ow (Ch w) ns l cs x.1 x.2) (fun x=>x.1≤l.length∧x.2.length=x.1∧((l.take x.1).map B).mapM (SK ns)=some x.2) (fun x=>l.length - x.1) (0,[]) (by simp[Ow,AW,lk,St.le,vI,vC,hcs,hll];try (rw[hlen,Nat.add_sub_cancel,htk,hll];try rfl)) ⟨by omega,rfl,rfl⟩ ?_
  rintro⟨i,L⟩ ⟨h1,h2,h3⟩
  simp only at h1 h2 h3;by_cases hi:i<l.length
  ·have g0:l[i]? =some l[i]:=AD hi
   have hnx:=jnM hi h3;have kl:=jeY ns l[i] (by omega)
   rcases jiV ns l[i]with⟨p1,p2⟩|⟨n,p1,p2⟩
   ·rw[p1]at hnx
    have hF0:F=none:=by rw[hF,jl5 hnx];rfl
    subst hF0;rw[p2]at kl;unfold L3;cases i with
    |zero=>
     unfold Ow A6 at*;simp -implicitDefEqProofs[jJ,-qA,-qB,hi,g0]
     (first|refine Ac kl ?_|refine Ae kl ?_)
     simp -implicitDefEqProofs[jJ,-qA,-qB]
    |succ i=>
     unfold Ow A6 at*;simp -implicitDefEqProofs[jJ,-qA,-qB,hi,g0]
     (first|refine Ac kl ?_|refine Ae kl ?_)
     simp -implicitDefEqProofs[jJ,-qA,-qB]
   ·rw[p1]at hnx
    rw[p2]at kl
    cases i with
    |zero=>
     unfold Ow A6 at*;simp -implicitDefEqProofs[jJ,-qA,-qB,hi,g0]
     (first|refine Ac kl ?_|refine Ae kl ?_)
     simp -implicitDefEqProofs[jJ,-qA,-qB,hi,g0]
     (first|refine Ac kl ?_|refine Ae kl ?_)
     simp -implicitDefEqProofs[jJ,-qA,-qB];refine⟨1,[(n:Int)],?_,⟨by omega,rfl,?_⟩,by omega⟩
     ·simp[Ow,AW,lk,vC,vI,A6,i64]
      rw[hcs]
      rfl
     ·have hL:L=[]:=jzv.1 h2
      rw[hL]at hnx
      simpa using hnx
    |succ i=>
     unfold Ow A6 at*;simp -implicitDefEqProofs[jJ,-qA,-qB,hi,g0]
     (first|refine Ac kl ?_|refine Ae kl ?_)
     simp -implicitDefEqProofs[jJ,-qA,-qB,hi,g0]
     (first|refine Ac kl ?_|refine Ae kl ?_)
     simp -implicitDefEqProofs[jJ,-qA,-qB]
     repeat refine And.intro (by omega) ?_
     refine⟨i+1+1,L++[(n:Int)],?_,⟨by omega,by rw[List.length_append,h2];rfl,by simpa using hnx⟩,by omega⟩
     simp[Ow,AW,lk,vC,vI,A6,i64,h2]
     rw[hcs]
     rfl
  ·have hi2:i=l.length:=by omega
   subst hi2;rw[BM]at h3;rw[h3]at hF;subst hF;unfold L3;simp only[Option.map_some];subst hcs;cases hk:l.length with
   |zero=>
    have hL:L=[]:=jzv.1 (by omega)
    subst hL;unfold Ow A6;simp -implicitDefEqProofs[jJ,-qA,-qB,hk];refine AA jfS jcT (by rfl) ?_
    simp -implicitDefEqProofs[jJ,-qA,-qB,Cm]
    first|exact⟨rfl,hb,by rw[hm,Cm];rfl,by rw[hd,Cm];rfl⟩|exact⟨hb,by rw[hm,Cm];rfl,by rw[hd,Cm];rfl⟩|rfl|skip
   |succ k=>
    unfold Ow A6;simp -implicitDefEqProofs[jJ,-qA,-qB,hk];refine AA jfS jcT (by rfl) ?_
    simp -implicitDefEqProofs[jJ,-qA,-qB,Cm]
    first|exact⟨rfl,hb,by rw[hm,Cm];rfl,by rw[hd,Cm];rfl⟩|exact⟨hb,by rw[hm,Cm];rfl,by rw[hd,Cm];rfl⟩|rfl|skip
def SB:Option (Int×List Int)→R
 |none=> .tup [.c (.d (.int .i64 0)),.c (.d (.slice 0 [])),.c (.d (.bool false))]
 |some p=> .tup [.c (.d (.int .i64 p.1)),.c (.d (AT p.2)),.c (.d (.bool true))]
theorem jnn(n:Int):Md n≤20:=by
 unfold Md;split
 ·decide
 ·split
  ·decide
  ·have key: ∀k<29,(rulT ((k:Nat):Int)).count≤20:=by decide+kernel
   have e:rulT n=rulT ((n.toNat:Nat):Int):=by unfold rulT;rw[Int.toNat_natCast]
   by_cases h:n.toNat<29
   ·rw[e];exact key _ h
   ·rw[show(rulT n).count=0 by unfold rulT;rw[Nh _ (by omega)];rfl]
    decide
theorem jj6:CallsF Tryz.prog 108 [] (.u (.c (.d (.int .i64 28)))):=by
 refine cO Tryz.func108 rfl ?_;simp -implicitDefEqProofs[jJ,-qA,-qB,-qF]
theorem jmv(n:Int):CallsF Tryz.prog 110 [.c (.int .i64 n)] (.u (.c (.d (.int .i64 (Md n))))):=by
 have k:=jpl n;rw[←jlP n]at k;exact k
theorem jkS{name:List UInt8}{k:Nat}(h: ∀j:Nat,1≤j→j≤28→ ¬(Bp j=name∧Md j=(k:Int))):ruleR name=0∨Md (ruleR name)≠(k:Int):=by
 by_cases h0:ruleR name=0
 ·exact .inl h0
 ·obtain⟨a1,a2,a3⟩:=jk2 h0
  refine .inr fun e=>h (ruleR name).toNat (by omega) (by omega) ⟨?_,?_⟩
  ·rw[Int.toNat_of_nonneg (by omega)];exact a1
  ·rw[Int.toNat_of_nonneg (by omega)];exact e
theorem jpp{name:List UInt8}{j:Nat}(h1:1≤j)(h2:j≤28)(h:Bp j=name):ruleR name=j:=by
 have:=Vx (j - 1) (by omega)
 rw[show j - 1+1=j by omega,h]at this
 exact this
def Rs(l:List ByteArray)(n:Nat):Nat→List Int→St
 |0,_=>⟨[(11,vI .i64 0),(10,vC (.sl 10 0 0)),(9,vI .i64 n),(8,vC (.d (A6 l)))],[(10,.row 1 [] true)]⟩
 |i+1,L=>⟨[(11,vI .i64 ((i+1:Nat):Int)),(10,vC (.sl 10 0 L.length)),(9,vI .i64 n),(8,vC (.d (A6 l)))],[(10,.row 1 (L.map i64) true)]⟩
theorem jmV(s:ByteArray)(hs:s.size≤20000):CallsF Tryz.prog 61 [.c (.str s)] (SB (O0 (B s))):=by
 obtain⟨F,hF⟩: ∃F,F=O0 (B s):=⟨_,rfl⟩
 rw[←hF]
 unfold O0 at hF;simp only at hF;have kc:=Ph s { data:= #[32,102,114,111,109,32] } (by omega) (by decide)
 unfold N7 at kc;rw[show B { data:= #[32,102,114,111,109,32] }=[32,102,114,111,109,32] from rfl]at kc
 have j:=P8 (s:=B s) (sep:=[32,102,114,111,109,32]);generalize Lib.cut (B s) [32,102,114,111,109,32]=C at*;obtain⟨w,rest,o⟩:=C;simp only at*;cases o with
 |false=>
  rw[if_pos rfl]at hF
  subst hF;unfold SB;refine cO Tryz.func61 rfl ?_;simp -implicitDefEqProofs[jJ,-qA,-qB]
  (first|refine Ac kc ?_|refine Ae kc ?_)
  simp -implicitDefEqProofs[jJ,-qA,-qB]
 |true=>
 rw[if_neg (by simp)]at hF
 have j:=congrArg List.length (j rfl);simp only[List.length_append,List.length_cons,List.length_nil,Hg]at j;have kp:=jfv (Ch rest) (by rw[Ja];omega)
 rw[Mw]at kp
 obtain⟨q1,q2⟩:=Xj rest
 have q3:=XP rest;generalize prt rest=P at*;obtain⟨l,hll⟩: ∃l,l=P.map Ch:=⟨_,rfl⟩;have hlen:l.length=P.length:=by rw[hll,List.length_map]
 have hPl:P=l.map B:=by rw[hll,WB]
 rw[←hll]at kp
 rw[hPl,List.length_map]at hF
 have hln:l.length≤20001:=by omega
 have kk:=jj6;refine cO Tryz.func61 rfl ?_;simp -implicitDefEqProofs[jJ,-qA,-qB]
 (first|refine Ac kc ?_|refine Ae kc ?_)
 simp -implicitDefEqProofs[jJ,-qA,-qB]
 (first|refine Ac kp ?_|refine Ae kp ?_)
 simp -implicitDefEqProofs[jJ,-qA,-qB];refine AV (fun n:Nat=>⟨[(9,vI .i64 n),(8,vC (.d (A6 l))),(5,vC (.d (.str (Ch w))))],[]⟩) (fun n=>1≤n∧n≤29∧ ∀j:Nat,1≤j→j<n→ ¬(Bp j=w∧Md j=(l.length:Int))) (fun n=>29 - n) 1 (by simp[AW,lk,St.le,vI,vC]) ⟨by omega,by omega,fun j h1 h2=>by omega⟩ ?_
 rintro n ⟨h1,h2,h3⟩
 have hlC:lenC (.d (A6 l))=some l.length:=rfl
 by_cases h:n≤28
 ·have kN:=jbL n;have kP:=jmv n;by_cases q:Bp n=w
  ·have hr:=jpp h1 h q;have qb:G6 .neq (Ch w) (Ch w)=some (vB false):=UQ _;rw[q]at kN;by_cases p:Md n=(l.length:Int)
   ·rw[hr,if_neg (by omega)]at hF
    subst hF;rw[p]at kP;unfold SB;simp -implicitDefEqProofs[jJ,-qA,-qB,h]
    (first|refine Ac kk ?_|refine Ae kk ?_)
    simp -implicitDefEqProofs[jJ,-qA,-qB,h]
    (first|refine Ac kN ?_|refine Ae kN ?_)
    simp -implicitDefEqProofs[jJ,-qA,-qB,qb]
    (first|refine Ac kP ?_|refine Ae kP ?_)
    simp -implicitDefEqProofs[jJ,-qA,-qB,hlC];refine CE [(10,51)] (fun x:Nat×List Int=>Rs l n x.1 x.2) (fun x=>x.1≤l.length∧x.2=(l.take x.1).map fun y=>LZ (B y)) (fun x=>l.length - x.1) (0,[]) (by simp[Rs,AW,lk,St.le,vI,vC]) ⟨by omega,rfl⟩ ?_
    rintro⟨i,L⟩ ⟨z1,z2⟩
    simp only at z1 z2;have zl:L.length=i:=by rw[z2,List.length_map,A8];omega
    by_cases hi:i<l.length
    ·have g0:l[i]? =some l[i]:=AD hi
     have ku:=joh l[i];have zs:L++[LZ (B l[i])]=(l.take (i+1)).map fun y=>LZ (B y):=by rw[Cr hi,List.map_append,z2];rfl
     cases i with
     |zero=>
      unfold Rs A6 at*;simp -implicitDefEqProofs[jJ,-qA,-qB,hi,g0]
      (first|refine Ac ku ?_|refine Ae ku ?_)
      simp -implicitDefEqProofs[jJ,-qA,-qB];refine⟨1,[LZ (B l[0])],?_,⟨by omega,by have:=zs;rw[z2]at this;simpa using this⟩,by omega⟩
      simp[Rs,AW,lk,vC,vI,A6,i64]
     |succ i=>
      unfold Rs A6 at*;simp -implicitDefEqProofs[jJ,-qA,-qB,hi,g0,zl]
      (first|refine Ac ku ?_|refine Ae ku ?_)
      simp -implicitDefEqProofs[jJ,-qA,-qB]
      repeat refine And.intro (by omega) ?_
      refine⟨i+1+1,L++[LZ (B l[i+1])],?_,⟨by omega,by rw[zs,List.map_take]⟩,by omega⟩
      simp[Rs,AW,lk,vC,vI,A6,i64,zl]
    ·have hi2:i=l.length:=by omega
     subst hi2;rw[BM]at z2;have hmm:l.map (LZ∘B)=L:=by rw[z2];rfl
     simp only[List.map_map,hmm];have hpos:0<l.length:=by rw[hlen];exact List.length_pos_iff.2 q3
     cases hk:l.length with
     |zero=>omega
     |succ k=>
      unfold Rs A6 at*;simp -implicitDefEqProofs[jJ,-qA,-qB,hk]
   ·simp -implicitDefEqProofs[jJ,-qA,-qB,h]
    (first|refine Ac kk ?_|refine Ae kk ?_)
    simp -implicitDefEqProofs[jJ,-qA,-qB,h]
    (first|refine Ac kN ?_|refine Ae kN ?_)
    simp -implicitDefEqProofs[jJ,-qA,-qB,qb]
    (first|refine Ac kP ?_|refine Ae kP ?_)
    simp -implicitDefEqProofs[jJ,-qA,-qB,hlC,p];have hj: ∀j:Nat,1≤j→j<n+1→ ¬(Bp j=w∧Md j=(l.length:Int)):=fun j j1 j2=>by
     by_cases e:j=n
     ·rw[e];exact fun q=>p q.2
     ·exact h3 j j1 (by omega)
    repeat refine And.intro (by omega) ?_
    first|omega|exact⟨⟨by omega,fun j a b c d=>hj j a b ⟨c,d⟩⟩,by omega⟩|exact⟨fun j a b c d=>hj j a b ⟨c,d⟩,by omega⟩|exact fun j a b c d=>hj j a b ⟨c,d⟩|exact⟨hj,by omega⟩
  ·have qb:G6 .neq (Ch (Bp n)) (Ch w)=some (vB true):=U7 (fun e=>q (congrArg B e))
   simp -implicitDefEqProofs[jJ,-qA,-qB,h]
   (first|refine Ac kk ?_|refine Ae kk ?_)
   simp -implicitDefEqProofs[jJ,-qA,-qB,h]
   (first|refine Ac kN ?_|refine Ae kN ?_)
   simp -implicitDefEqProofs[jJ,-qA,-qB,qb];have hj: ∀j:Nat,1≤j→j<n+1→ ¬(Bp j=w∧Md j=(l.length:Int)):=fun j j1 j2=>by
    by_cases e:j=n
    ·rw[e];exact fun r=>q r.1
    ·exact h3 j j1 (by omega)
   repeat refine And.intro (by omega) ?_
   first|omega|exact⟨⟨by omega,fun j a b c d=>hj j a b ⟨c,d⟩⟩,by omega⟩|exact⟨fun j a b c d=>hj j a b ⟨c,d⟩,by omega⟩|exact fun j a b c d=>hj j a b ⟨c,d⟩|exact⟨hj,by omega⟩
 ·have hn:n=29:=by omega
  subst hn;rw[if_pos (jkS fun j j1 j2=>h3 j j1 (by omega))]at hF
  subst hF;unfold SB;simp -implicitDefEqProofs[jJ,-qA,-qB]
  (first|refine Ac kk ?_|refine Ae kk ?_)
  simp -implicitDefEqProofs[jJ,-qA,-qB]
end Go.Va
