/- a part of the proof -/
import Derived.Test.YtlgoebgnbkhmmaaGreatDoorZbm
import Derived.Test.YtlgoebgnbkhmmaaGreatDoorZbd
import Derived.Test.YtlgoebgnbkhmmaaGreatDoorZbl
import Derived.Test.YtlgoebgnbkhmmaaGreatDoorZau
import Derived.Test.YtlgoebgnbkhmmaaGreatDoorZaw
import Derived.Test.YtlgoebgnbkhmmaaGreatDoorZaz
import Derived.Test.YtlgoebgnbkhmmaaGreatDoorZan
import Derived.Test.YtlgoebgnbkhmmaaGreatDoorZav
set_option linter.all false
set_option maxHeartbeats 4000000
set_option maxRecDepth 100000
namespace Go.Va
open Int renaming natCast_add → qA, natCast_mul → qB, natCast_emod → qC, natCast_ediv → qD, natCast_pow → qE
open List renaming reduceReplicate → qF
open Go.Proofs
def OS:ByteArray:={ data:= #[44,32] }
def pcsS(s:ByteArray):List ByteArray:=Lib.splitB OS 0 (Lib.countB s OS) s
theorem Wn(s:ByteArray):(pcsS s).map B=Pq (B s):=Lib.splitB_data OS 0 (Lib.countB s OS) s
theorem jdq(s:ByteArray):(pcsS s).length=Lib.countB s OS+1:=Lib.splitB_all OS (by decide) 0 _ s rfl
theorem VZ(s:ByteArray):(pcsS s).length≤s.size+1:=by
 have:=Lib.countB_le OS (by decide) s.size s (AO _)
 rw[jdq]
 omega
theorem Wj(s:ByteArray)(hs:s.size≤100000):CallsF Tryz.prog 20 [.c (.str s),.c (.str { data:= #[44,32] })] (.u (.c (.d (.slice (pcsS s).length (strsD (pcsS s)))))):=by
 have hl:=VZ s;rw[jdq]at hl ⊢;exact Ze s OS (by omega) (by decide) (Lib.splitB_all OS (by decide) 0 _ s rfl) (Nat.le_trans (show _≤100001 by omega) (by decide))
theorem jmE(u:Nat): ∀acc:Nat,Lib.decFrom acc (Lib.decDigits u)=some (acc*10^(Lib.decDigits u).length+u):=by
 induction u using Nat.strongRecOn with
 |ind u ih=>
  intro acc;have app: ∀(l:List UInt8) (a b:Nat) (c:UInt8),Lib.decFrom a l=some b→Lib.decFrom a (l++[c])=Lib.decFrom b [c]:=fun l=>by
   induction l with
   |nil=>intro a b c h;cases h;rfl
   |cons x r ihr=>
    intro a b c h;rw[List.cons_append,Lib.decFrom];rw[Lib.decFrom]at h;cases hx:Lib.digitVal x with
    |none=>rw[hx]at h;cases h
    |some d=>rw[hx]at h;exact ihr _ b c h
  have one: ∀r,r<10→ ∀a:Nat,Lib.decFrom a [UInt8.ofNat (48+r)]=some (a*10+r):=fun r hr a=>by
   have hd:(UInt8.ofNat (48+r)).toNat=48+r:=by
    have:r=0∨r=1∨r=2∨r=3∨r=4∨r=5∨r=6∨r=7∨r=8∨r=9:=by omega
    rcases this with rfl|rfl|rfl|rfl|rfl|rfl|rfl|rfl|rfl|rfl<;>rfl
   simp only[Lib.decFrom,Lib.digitVal];rw[hd,if_pos (by omega)]
   simp
  rw[Lib.decDigits]
  split
  ·rename_i h
   rw[one u h acc]
   simp
  ·rename_i h
   have h1:=ih (u/10) (by omega) acc
   rw[app _ _ _ _ h1,one (u%10) (by omega),List.length_append,List.length_singleton,Nat.pow_succ]
   congr 1
   rw[Nat.add_mul,Nat.mul_assoc]
   omega
theorem jhX(u:Nat):Lib.atoi (Lib.decDigits u)=some (u:Int):=by
 have h:=jmE u 0;have hh:=ZJ u;have hne:=RI u;have hm:=fun c=> @UV u c
 cases hd:Lib.decDigits u with
 |nil=>exact absurd hd hne
 |cons b r=>
  rw[hd]at h hh hm
  have hb:=hm b (by simp)
  have e: ∀k:UInt8,KI k=false→(b==k)=false:=fun k hk=>beq_eq_false_iff_ne.2 fun q=>by rw[q,hk]at hb;cases hb
  simp only[Lib.atoi];rw[e 45 (by decide),e 43 (by decide)]
  simp only[Bool.false_eq_true,if_false];unfold Lib.decNat;rw[h];simp
def Qf(s:ByteArray):Prop:= ∃(n:Int) (e:D),CallsF Tryz.prog 103 [.c (.str s)] (.tup [.c (.d (.int .i64 n)),.c (.d e)])∧ -9223372036854775808≤n∧n≤9223372036854775807∧(e= .lit .nilIface∨e= .nn)
def LQ(m:Nat)(x:List UInt8):Option Int:=(Pn m x).map fun(n:Nat)=>(n:Int)
theorem R6{α β:Type}(f:α→Option β): ∀(a b:List α),(a++b).mapM f=(a.mapM f).bind fun x=>(b.mapM f).map fun y=>x++y
 |[],b=>by simp
 |c::a,b=>by
  rw[List.cons_append,List.mapM_cons,List.mapM_cons,R6 f a b]
  cases f c<;>cases a.mapM f<;>cases b.mapM f<;>rfl
theorem jmU{m:Nat}{l:List ByteArray}{i:Nat}(h:i<l.length){L:List Int}(hL:((l.take i).map B).mapM (LQ m)=some L):((l.take (i+1)).map B).mapM (LQ m)=(LQ m (B l[i])).map fun n=>L++[n]:=by
 rw[Cr h,List.map_append,R6,hL]
 simp only[List.map_cons,List.map_nil,List.mapM_cons,List.mapM_nil,Option.bind_some];cases LQ m (B l[i])<;>rfl
theorem ji8{m:Nat}{l:List ByteArray}{i:Nat}(h:((l.take i).map B).mapM (LQ m)=none):(l.map B).mapM (LQ m)=none:=by
 rw[←List.take_append_drop i l,List.map_append,R6,h]
 rfl
theorem jde: ∀(l:List (List UInt8)),∀x∈l,x.length≤(Bc l).length
 |[w],x,hx=>by rw[OR,List.mem_singleton.1 hx];exact AO _
 |y::z::r,x,hx=>by
  rw[Na,List.length_append,List.length_cons,List.length_cons]
  rcases jzn.1 hx with rfl|hx
  ·omega
  ·have:=jde (z::r) x hx
   omega
theorem jiy(s:ByteArray): ∀x∈pcsS s,x.size≤s.size:=fun x hx=>by
 have:=jde (Pq (B s)) (B x) (by rw[←Wn];exact jzk.2 ⟨x,hx,rfl⟩)
 rw[XV]at this
 exact this
theorem jkT(hA: ∀x:ByteArray,x.size≤100000→Qf x)(s:ByteArray)(hs:s.size≤100000)(m:Nat)(hm:m≤100000):CallsF Tryz.prog 55 [.c (.str s),.c (.int .i64 m)]
  (.tup [.c (.d (AT ((Qq m (B s)).getD []))),.c (.d (.bool (Qq m (B s)).isSome))]):=by
 have kp:=Wj s hs;have hl:=VZ s;have hB:=Wn s;have hf:Qq m (B s)=((pcsS s).map B).mapM (LQ m):=by rw[hB];rfl
 rw[hf]
 have hsz: ∀x∈pcsS s,x.size≤100000:=fun x hx=>Nat.le_trans (jiy s x hx) hs
 clear hB hf;generalize pcsS s=l at*;obtain⟨F,hF⟩: ∃F,F=(l.map B).mapM (LQ m):=⟨_,rfl⟩;rw[←hF];refine cO Tryz.func55 rfl ?_;simp -implicitDefEqProofs[jJ,-qA,-qB,-qC,-qD,-qE]
 (first|refine Ac kp ?_|refine Ae kp ?_)
 simp -implicitDefEqProofs[jJ,-qA,-qB,-qC,-qD,-qE];refine CE [(6,43)] (fun x:Nat×List Int=>⟨[(14,vI .i64 x.1),(13,vI .i64 l.length),(12,vC (.d (.slice l.length (strsD l)))),(6,vC (.sl 6 0 x.1)),(1,vI .i64 m)],[(6,.row 1 (x.2.map i64) true)]⟩)
  (fun x=>x.1≤l.length∧x.2.length=x.1∧((l.take x.1).map B).mapM (LQ m)=some x.2) (fun x=>l.length - x.1) (0,[]) (by simp[AW,lk,St.le,vI,vC]) ⟨by omega,rfl,rfl⟩ ?_
 rintro⟨i,L⟩ ⟨h1,h2,h3⟩
 simp only at h1 h2 h3;by_cases hi:i<l.length
 ·have g0:l[i]? =some l[i]:=AD hi
  have hx:=hsz _ (AZ hi);have hsl:(strsD l)[i]'(by rw[HR];exact hi)= .str l[i]:=by simp[strsD]
  have hnx:=jmU hi h3;cases hn:Pn m (B l[i])with
  |some n=>
   obtain⟨n1,n2⟩:=numR_some.1 hn
   have hq:LQ m (B l[i])=some (n:Int):=by unfold LQ;rw[hn];rfl
   rw[hq]at hnx
   have hlen:(Lib.decDigits n).length≤5+1:=KT 5 n (by omega)
   have ka:=TD l[i] n (by rw[←Hg,n2];omega) (by show Lib.atoi (B l[i])=_;rw[n2];exact jhX n)
   have ki:=On (n:=n) ⟨by omega,by omega⟩
   rw[QT (by omega),Int.toNat_natCast,←n2,O9]at ki
   simp only[List.map_cons,List.map_nil]at ka;have eb:=UQ l[i];have hlt: ¬(m:Nat)≤n:=by omega
   simp -implicitDefEqProofs[jJ,-qA,-qB,-qC,-qD,-qE,hi,g0,hsl]
   (first|refine Ac ka ?_|refine Ae ka ?_)
   simp -implicitDefEqProofs[jJ,-qA,-qB,-qC,-qD,-qE]
   (first|refine Ac ki ?_|refine Ae ki ?_)
   simp -implicitDefEqProofs[jJ,-qA,-qB,-qC,-qD,-qE,eb,hlt];exact⟨h2,⟨by omega,by omega⟩,by omega,i+1,L++[(n:Int)],⟨rfl,by rw[List.map_append];rfl⟩,⟨by omega,by rw[List.length_append,h2];rfl,by rw[←List.map_take];exact hnx⟩,by omega⟩
  |none=>
   have hq:LQ m (B l[i])=none:=by unfold LQ;rw[hn];rfl
   rw[hq]at hnx
   have hF0:F=none:=by rw[hF];exact ji8 hnx
   subst hF0;obtain⟨n,e,ka,b1,b2,he⟩:=hA _ hx;rcases he with rfl|rfl
   ·have ki:=On (n:=n) ⟨b1,by omega⟩
    rcases MK (Ch (A3 n)) l[i]with⟨q,_⟩|⟨q,_⟩
    ·have eb:=UQ l[i];rw[q]at ki;by_cases hneg:n<0
     ·simp -implicitDefEqProofs[jJ,-qA,-qB,-qC,-qD,-qE,hi,g0,hsl]
      (first|refine Ac ka ?_|refine Ae ka ?_)
      simp -implicitDefEqProofs[jJ,-qA,-qB,-qC,-qD,-qE]
      (first|refine Ac ki ?_|refine Ae ki ?_)
      simp -implicitDefEqProofs[jJ,-qA,-qB,-qC,-qD,-qE,eb,hneg];rfl
     ·have hge:(m:Int)≤n:=by
       rcases Int.lt_or_le n m with h|h
       ·have:=(numR_some (m:=m) (n:=n.toNat) (x:=B l[i])).2 ⟨by omega,by rw[←q];show A3 n=_;exact QT (by omega)⟩
        rw[hn]at this
        cases this
       ·exact h
      simp -implicitDefEqProofs[jJ,-qA,-qB,-qC,-qD,-qE,hi,g0,hsl]
      (first|refine Ac ka ?_|refine Ae ka ?_)
      simp -implicitDefEqProofs[jJ,-qA,-qB,-qC,-qD,-qE]
      (first|refine Ac ki ?_|refine Ae ki ?_)
      simp -implicitDefEqProofs[jJ,-qA,-qB,-qC,-qD,-qE,eb,hneg,hge];rfl
    ·have eb:=U7 q;simp -implicitDefEqProofs[jJ,-qA,-qB,-qC,-qD,-qE,hi,g0,hsl]
     (first|refine Ac ka ?_|refine Ae ka ?_)
     simp -implicitDefEqProofs[jJ,-qA,-qB,-qC,-qD,-qE]
     (first|refine Ac ki ?_|refine Ae ki ?_)
     simp -implicitDefEqProofs[jJ,-qA,-qB,-qC,-qD,-qE,eb];rfl
   ·simp -implicitDefEqProofs[jJ,-qA,-qB,-qC,-qD,-qE,hi,g0,hsl]
    (first|refine Ac ka ?_|refine Ae ka ?_)
    simp -implicitDefEqProofs[jJ,-qA,-qB,-qC,-qD,-qE];rfl
 ·have hi2:i=l.length:=by omega
  subst hi2;rw[BM,←hF]at h3;subst h3;simp -implicitDefEqProofs[jJ,-qA,-qB,-qC,-qD,-qE,hi];exact⟨by omega,by rw[Ba (by simp;omega),←h2];rfl⟩
def jey:List (List Nat):=(Ah [0,1,0,7])
@[simp]def jbk:List Seg:=[.any [] [] (Aq [[1],[5],[]]),.one]
theorem Zh{n:Nat}(h:n≠0):Lib.decDigits n=BI n:=by unfold BI;rw[if_neg h]
theorem jhA(n:Nat)(hn:(limbs n).length≤300):CallsF Tryz.prog 282 [.c (Ad (limbs n))] (.u (.c (.d (.str (Ch (Lib.decDigits n)))))):=by
 have ln:=hn;have k0:=CM (limbs n) (Aw _) (by omega)
 rw[Az]at k0
 have k1:=C6 10 (by omega)
 refine cO Tryz.func282 rfl ?_;simp -implicitDefEqProofs[jJ,-qA,-qB,-qC,-qD,-qE]
 (first|refine Ac k0 ?_|refine Ae k0 ?_)
 by_cases h0:n=0
 ·subst h0;simp -implicitDefEqProofs[jJ,-qA,-qB,-qC,-qD,-qE,Cm];rw[Lib.decDigits];rfl
 ·have hp:(limbs n).length≠0:=fun h=>h0 (limbs_nil.1 (jzv.1 h))
  simp -implicitDefEqProofs[jJ,-qA,-qB,-qC,-qD,-qE,hp];refine AV (fun p:Nat×List UInt8=>⟨[(0,vC (.d (Ad (limbs p.1)))),(3,vC (.d (.str (Ch p.2))))],[]⟩) (fun p=>BI p.1++p.2=BI n∧p.1≤n∧p.2.length≤2000) (fun p=>p.1) (n,[])
   (by simp[AW,lk,St.le,vI,vC,Ch]) ⟨by simp,AO _,by simp⟩ ?_
  rintro⟨m,l⟩ ⟨h1,h2,h3⟩
  simp only at h1 h2 h3;have lm:=Nat.le_trans (CG h2) hn;have l10:=IK (n:=10) (by omega)
  have kd:=ID (limbs m) (limbs 10) (Aw _) (by omega) (Aw _) (by omega) (by rw[Az];omega)
  have ks:=OX (limbs (m%10)) (Aw _) (IK (by omega))
  rw[Az,Az]at kd
  rw[Az]at ks
  by_cases hm:m=0
  ·subst hm;simp -implicitDefEqProofs[jJ,-qA,-qB,-qC,-qD,-qE,Cm];rw[Zh h0,←h1];rfl
  ·have hp2:0<(limbs m).length:=limbs_pos_len.2 (by omega)
   simp -implicitDefEqProofs[jJ,-qA,-qB,-qC,-qD,-qE,hp2]
   (first|refine Ac k1 ?_|refine Ae k1 ?_)
   simp -implicitDefEqProofs[jJ,-qA,-qB,-qC,-qD,-qE]
   (first|refine Ac kd ?_|refine Ae kd ?_)
   simp -implicitDefEqProofs[jJ,-qA,-qB,-qC,-qD,-qE]
   (first|refine Ac ks ?_|refine Ae ks ?_)
   simp -implicitDefEqProofs[jJ,-qA,-qB,-qC,-qD,-qE,convC,Un,jcf,Ce,Iv,AP,MM,G6];have hd:BI m=BI (m/10)++[UInt8.ofNat (48+m%10)]:=by
    have q:=jkd (m:=m/10) (x:=m%10) (by omega) (by omega)
    rwa [show m/10*10+m%10=m by omega]at q
   have hn20:=Sq hn;rw[Zh h0]at hn20;have h4:BI (m/10)++(UInt8.ofNat (48+m%10)::l)=BI n:=by
    rw[←h1,hd]
    simp
   refine⟨by rw[Ja];omega,m/10,UInt8.ofNat (48+m%10)::l,⟨rfl,?_⟩,⟨h4,by omega,?_⟩,by omega⟩
   ·rw[show(48+m%10)%256=48+m%10 by omega,show ByteArray.empty.push (UInt8.ofNat (48+m%10))=Ch [UInt8.ofNat (48+m%10)] from rfl,Ng]
    rfl
   ·have:=congrArg List.length h4
    rw[List.length_append]at this
    omega
theorem jmz(neg:Bool)(m:Nat)(hm:(limbs m).length≤300):CallsF Tryz.prog 281 [.agg [.bool neg,Ad (limbs m)]] (.u (.c (.d (.str (Ch (intW neg m)))))):=by
 have lm:=hm;have k0:=IS neg (limbs m) (Aw _) (by omega)
 rw[Az]at k0
 have k1:=jhA m hm;have hl:=Sq hm;have hz:=Ja (Lib.decDigits m);have ha:=Ng [45] (Lib.decDigits m);have hs1:({ data:= #[45] }:ByteArray).size=1:=rfl;have h1:(Ch [45])={ data:= #[45] }:=rfl;rw[h1]at ha;unfold intW;generalize Lib.decDigits m=dm at*;generalize hT:Ch dm=T at*;refine cO Tryz.func281 rfl ?_;by_cases h:neg=true∧m≠0
 ·rw[if_pos h]
  obtain⟨rfl,h0⟩:=h
  simp -implicitDefEqProofs[jJ,-qA,-qB,-qC,-qD,-qE]
  (first|refine Ac k0 ?_|refine Ae k0 ?_)
  have h0':0<m:=by omega
  simp -implicitDefEqProofs[jJ,-qA,-qB,-qC,-qD,-qE,AU,sg,h0']
  (first|refine Ac k1 ?_|refine Ae k1 ?_)
  simp -implicitDefEqProofs[jJ,-qA,-qB,-qC,-qD,-qE,G6,hs1,ha];omega
 ·rw[if_neg h,List.nil_append,hT]
  have hsg:sg neg m=false:=by
   unfold sg;cases neg with
   |false=>rfl
   |true=>simp only[Bool.true_and,decide_eq_false_iff_not];intro h2;exact h ⟨rfl,by omega⟩
  simp -implicitDefEqProofs[jJ,-qA,-qB,-qC,-qD,-qE]
  (first|refine Ac k0 ?_|refine Ae k0 ?_)
  simp -implicitDefEqProofs[jJ,-qA,-qB,-qC,-qD,-qE,AU,hsg]
  (first|refine Ac k1 ?_|refine Ae k1 ?_)
  simp -implicitDefEqProofs[jJ,-qA,-qB,-qC,-qD,-qE]
theorem jgK(neg:Bool)(m d:Nat)(hm:(limbs m).length≤300)(hd:(limbs d).length≤300)(d0:d≠0)(hg:Nat.gcd m d=1):
  CallsF Tryz.prog 188 [.agg [.bool neg,Ad (limbs m),Ad (limbs d)]] (.u (.c (.d (.str (Ch (intW neg m++(if d=1 then [] else 47::Lib.decDigits d))))))):=by
 have k0:=Uf neg m d (by omega) (by omega) d0 hg
 have ld:=hd;have k1:=C6 1 (by omega)
 have k2:=jhw (limbs d) (limbs 1) (by omega)
 have k3:=jmz (sg neg m) m hm;have k4:=jhA d hd;have hsg:intW (sg neg m) m=intW neg m:=by
  unfold intW sg;cases neg with
  |false=>rfl
  |true=>
   by_cases h:m=0
   ·subst h;rfl
   ·rw[if_pos ⟨by simp;omega,h⟩,if_pos ⟨rfl,h⟩]
 rw[hsg]at k3
 have h1:decide (limbs d=limbs 1)=decide (d=1):=by
  rw[decide_eq_decide]
  exact Hx
 rw[h1]at k2
 have hl1:(intW neg m).length≤1447:=by
  have:=Sq hm
  unfold intW;rw[List.length_append];split<;>simp<;>omega
 have hl2:=Sq hd;have hz1:=Ja (intW neg m);have hz2:=Ja (Lib.decDigits d);have a1:=Ng (intW neg m) [47];have a2:=Ng (intW neg m++[47]) (Lib.decDigits d);have hz3:=Ja (intW neg m++[47]);have h47:(Ch [47])={ data:= #[47] }:=rfl;have hs1:({ data:= #[47] }:ByteArray).size=1:=rfl;rw[h47]at a1;rw[List.length_append,List.length_singleton]at hz3;by_cases hd1:d=1
 ·subst hd1;rw[if_pos rfl,List.append_nil];generalize intW neg m=wi at*;refine cO Tryz.func188 rfl ?_;simp -implicitDefEqProofs[jJ,-qA,-qB,-qC,-qD,-qE]
  (first|refine Ac k0 ?_|refine Ae k0 ?_)
  simp -implicitDefEqProofs[jJ,-qA,-qB,-qC,-qD,-qE];refine AA jey jbk (by rfl) ?_
  simp -implicitDefEqProofs[jJ,-qA,-qB,-qC,-qD,-qE]
  (first|refine Ac k1 ?_|refine Ae k1 ?_)
  simp -implicitDefEqProofs[jJ,-qA,-qB,-qC,-qD,-qE]
  (first|refine Ac k2 ?_|refine Ae k2 ?_)
  simp -implicitDefEqProofs[jJ,-qA,-qB,-qC,-qD,-qE]
  (first|refine Ac k3 ?_|refine Ae k3 ?_)
  simp -implicitDefEqProofs[jJ,-qA,-qB,-qC,-qD,-qE]
 ·rw[if_neg hd1]
  have hfin:Ch (intW neg m++47::Lib.decDigits d)=Ch (intW neg m)++{ data:= #[47] }++Ch (Lib.decDigits d):=by
   rw[a1,a2,List.append_assoc,List.singleton_append]
  rw[hfin]
  generalize intW neg m=wi at*;generalize Lib.decDigits d=wn at*;generalize hT1:Ch wi=T1 at*;generalize hT2:Ch wn=T2 at*;generalize hT3:Ch (wi++[47])=T3 at*;refine cO Tryz.func188 rfl ?_;simp -implicitDefEqProofs[jJ,-qA,-qB,-qC,-qD,-qE]
  (first|refine Ac k0 ?_|refine Ae k0 ?_)
  simp -implicitDefEqProofs[jJ,-qA,-qB,-qC,-qD,-qE];refine AA jey jbk (by rfl) ?_
  simp -implicitDefEqProofs[jJ,-qA,-qB,-qC,-qD,-qE]
  (first|refine Ac k1 ?_|refine Ae k1 ?_)
  simp -implicitDefEqProofs[jJ,-qA,-qB,-qC,-qD,-qE]
  (first|refine Ac k2 ?_|refine Ae k2 ?_)
  simp -implicitDefEqProofs[jJ,-qA,-qB,-qC,-qD,-qE,hd1];refine AA (Ah [0,1,3,7,0,16,55,127,255]) [.any [] [] (Aq [[1],[12],[13],[14],[1],[16],[17]]),.one,.one] (by rfl) ?_
  simp -implicitDefEqProofs[jJ,-qA,-qB,-qC,-qD,-qE]
  (first|refine Ac k3 ?_|refine Ae k3 ?_)
  simp -implicitDefEqProofs[jJ,-qA,-qB,-qC,-qD,-qE,G6,a1,hs1];refine⟨by omega,?_⟩
  (first|refine Ac k4 ?_|refine Ae k4 ?_)
  simp -implicitDefEqProofs[jJ,-qA,-qB,-qC,-qD,-qE,G6,a1,hs1];omega
theorem jif(n:Int)(h0: -9223372036854775808≤n)(h1:n<9223372036854775808):CallsF Tryz.prog 66 [.c (.int .i64 n)] (.u (.agg (AU (decide (n<0)) n.natAbs))):=by
 by_cases hn:n<0
 ·obtain⟨m,rfl⟩: ∃m:Nat,n= -((m:Int)+1):=⟨(-n - 1).toNat,by omega⟩
  have hm:m<9223372036854775808:=by omega
  have k1:=C6 m (by omega)
  have k2:=C6 1 (by omega)
  have k3:=WM (limbs m) (limbs 1) (Aw _) (by have:=IK (show m<18446744073709551616 by omega);omega) (Aw _) (by decide)
  have k4:=E6 true (limbs (m+1)) (Aw _) (by have:=IK (show m+1<18446744073709551616 by omega);omega)
  rw[Az,Az]at k3
  rw[Az]at k4
  rw[decide_eq_true hn,show(-((m:Int)+1)).natAbs=m+1 by omega]
  refine cO Tryz.func66 rfl ?_;have e1: -((m:Int)+1)<0:=by omega
  have e2: -((m:Int)+1)+1= -(m:Int):=by omega
  simp -implicitDefEqProofs[jJ,-qA,-qB,-qC,-qD,-qE,hn,e1,e2];refine⟨by omega,by omega,?_⟩
  have e3: -(-((m+1:Nat):Int)+1)=(m:Int):=by omega
  have e4:IntKind.u64.wrap (m:Int)=(m:Int):=by show(m:Int)%18446744073709551616=m;omega
  rw[e3,e4]
  (first|refine Ac k1 ?_|refine Ae k1 ?_)
  simp -implicitDefEqProofs[jJ,-qA,-qB,-qC,-qD,-qE]
  (first|refine Ac k2 ?_|refine Ae k2 ?_)
  simp -implicitDefEqProofs[jJ,-qA,-qB,-qC,-qD,-qE]
  (first|refine Ac k3 ?_|refine Ae k3 ?_)
  simp -implicitDefEqProofs[jJ,-qA,-qB,-qC,-qD,-qE]
  (first|refine Ac k4 ?_|refine Ae k4 ?_)
  simp -implicitDefEqProofs[jJ,-qA,-qB,-qC,-qD,-qE,AU]
 ·obtain⟨m,rfl⟩: ∃m:Nat,n=m:=⟨n.toNat,by omega⟩
  rw[decide_eq_false hn]
  exact joH m (by omega)
theorem jmk(n:Int):sg (decide (n<0)) n.natAbs=decide (n<0):=by
 unfold sg;by_cases h:n<0
 ·rw[decide_eq_true h];simp;omega
 ·rw[decide_eq_false h];rfl
theorem jc3(n:Int)(h0: -9223372036854775808≤n)(h1:n<9223372036854775808):CallsF Tryz.prog 113 [.c (.int .i64 n)] (.u (.c (.d (.str (Ch (A3 n)))))):=by
 have k1:=jif n h0 h1;have k2:=C6 1 (by omega)
 have k3:=Ix (decide (n<0)) n.natAbs 1 (by omega) (by omega) (by omega) (Nat.gcd_one_right _)
 have k4:=jgK (decide (n<0)) n.natAbs 1 (by have:=IK (n:=n.natAbs) (by omega);omega) (by have:=IK (n:=1) (by omega);omega) (by omega) (Nat.gcd_one_right _)
 rw[if_pos rfl,List.append_nil]at k4
 have hs:=jmk n;have ko:CallsF Tryz.prog 67 [.c (.int .i64 n)] (.u (.agg [.d (.bool (decide (n<0))),.d (Ad (limbs n.natAbs)),.d (Ad (limbs 1))])):=by
  rw[hs]at k3
  unfold AU at k1;rw[hs]at k1;generalize decide (n<0)=b at*;generalize limbs n.natAbs=L at*;refine cO Tryz.func67 rfl ?_;simp -implicitDefEqProofs[jJ,-qA,-qB,-qC,-qD,-qE]
  (first|refine Ac k1 ?_|refine Ae k1 ?_)
  simp -implicitDefEqProofs[jJ,-qA,-qB,-qC,-qD,-qE]
  (first|refine Ac k2 ?_|refine Ae k2 ?_)
  simp -implicitDefEqProofs[jJ,-qA,-qB,-qC,-qD,-qE]
  (first|refine Ac k3 ?_|refine Ae k3 ?_)
  simp -implicitDefEqProofs[jJ,-qA,-qB,-qC,-qD,-qE]
 unfold A3;generalize intW (decide (n<0)) n.natAbs=wi at*;generalize decide (n<0)=b at*;generalize limbs n.natAbs=L at*;refine cO Tryz.func113 rfl ?_;simp -implicitDefEqProofs[jJ,-qA,-qB,-qC,-qD,-qE]
 (first|refine Ac ko ?_|refine Ae ko ?_)
 simp -implicitDefEqProofs[jJ,-qA,-qB,-qC,-qD,-qE]
 (first|refine Ac k4 ?_|refine Ae k4 ?_)
 simp -implicitDefEqProofs[jJ,-qA,-qB,-qC,-qD,-qE]
theorem joD(neg:Bool)(a b:List Nat)(ha:Ok a)(hl:a.length≤70368744177000)(hb:Ok b)(hm:b.length≤70368744177000):
  CallsF Tryz.prog 198 [.agg [.bool neg,Ad a,Ad b]] (.u (.c (.d (.bool (CV neg a b))))):=by
 have k:=jjE neg a (by omega)
 have v:=Zb b (by omega)
 have g:=Ku a b ha (by omega) hb (by omega)
 have hgl:(limbs (Nat.gcd (val a) (val b))).length≤70368744177000:=by
  rcases Nat.eq_zero_or_pos (val b)with h|h
  ·rw[h,Nat.gcd_zero_right]
   have:=Bu a ha
   omega
  ·have:=CG (Nat.gcd_le_right (val a) h)
   have:=Bu b hb
   omega
 have s:=jhw (limbs (Nat.gcd (val a) (val b))) (limbs 1) (by omega)
 unfold CV;clear hgl ha hb hl hm;refine cO Tryz.func198 rfl ?_;cases hr:(Nr a&& !(neg&&decide (a=[])))
 ·rw[hr]at k
  simp -implicitDefEqProofs[jJ,-qA,-qB]
  (first|refine Ac k ?_|refine Ae k ?_)
  simp -implicitDefEqProofs[jJ,-qA,-qB]
 ·rw[hr]at k
  simp -implicitDefEqProofs[jJ,-qA,-qB]
  (first|refine Ac k ?_|refine Ae k ?_)
  simp -implicitDefEqProofs[jJ,-qA,-qB]
  (first|refine Ac v ?_|refine Ae v ?_)
  cases hv:Nr b
  ·simp -implicitDefEqProofs[jJ,-qA,-qB]
  ·simp -implicitDefEqProofs[jJ,-qA,-qB]
   (first|refine Ac g ?_|refine Ae g ?_)
   simp -implicitDefEqProofs[jJ,-qA,-qB]
   (first|refine Ac (C6 1 (by omega)) ?_|refine Ae (C6 1 (by omega)) ?_)
   simp -implicitDefEqProofs[jJ,-qA,-qB]
   (first|refine Ac s ?_|refine Ae s ?_)
   simp -implicitDefEqProofs[jJ,-qA,-qB];simp only[Ea,Hx];refine⟨fun h1=> ?_,fun h1 _ h2=>h1 h2⟩
   cases b<;>simp[h1]
theorem Yf(k:Int):arity k≤8:=by
 unfold arity;split
 ·omega
 split
 ·omega
 split
 ·omega
 split<;>omega
structure Fct.Long (f:Fct):Prop where
 oa:Va.Ok f.abs
 od:Va.Ok f.den
 la:f.abs.length≤70368744177000
 ld:f.den.length≤70368744177000
theorem jll(f:Fct)(hf:f.Long)(n:Int):CallsF Tryz.prog 124 [.agg f.ds,.c (.int .i64 n)] (.u (.c (.d (.int .i64 (wrong f n))))):=by
 refine cO Tryz.func124 rfl ?_;obtain⟨kind,args,neg,abs,den⟩:=f;obtain⟨oa,od,la,ld⟩:=hf;simp only at la ld oa od;simp only[Fct.ds,wrong];simp -implicitDefEqProofs[jJ,-qA,-qB]
 (first|refine Ac (XI kind) ?_|refine Ae (XI kind) ?_)
 have ka:=XI kind;have har:=Yf kind;generalize arity kind=ar at*;by_cases h1:ar=0
 ·simp -implicitDefEqProofs[jJ,-qA,-qB,h1]
 simp -implicitDefEqProofs[jJ,-qA,-qB,h1];refine AA (Ah [0,1,3,0,8,24,63]) [.any [] [] (Aq [[2],[11],[12],[2],[14],[15]]),.one] (by rfl) ?_
 simp -implicitDefEqProofs[jJ,-qA,-qB]
 (first|refine Ac ka ?_|refine Ae ka ?_)
 by_cases h2:args.length=ar
 ·simp -implicitDefEqProofs[jJ,-qA,-qB,h1,h2];refine AV (fun i:Nat=>⟨[(21,vI .i64 i),(20,vI .i64 (ar:Nat)),(19,vC (.d (AT args))),(2,vC (.ptr 2 0)),(1,vI .i64 n)],[(2,.box [.d (.int .i64 kind),.d (AT args),.d (.bool neg),.d (Ad abs),.d (Ad den)])]⟩) (fun i=>i≤args.length∧(args.drop i).any (fun a=>decide (a<0)||decide (n≤a))=args.any (fun a=>decide (a<0)||decide (n≤a))) (fun i=>args.length - i) 0 (by simp) ⟨by omega,rfl⟩ ?_
  rintro i ⟨h3,h4⟩
  by_cases h:i<args.length
  ·have e:=Lq (p:=fun a=>decide (a<0)||decide (n≤a)) h
   have hk:i<ar:=by omega
   rw[e]at h4
   by_cases h5:args[i]<0
   ·simp -implicitDefEqProofs[jJ,-qA,-qB,h,hk,h5,i64];intro hh;have:=hh _ (AZ h);omega
   ·by_cases h6:n≤args[i]
    ·simp -implicitDefEqProofs[jJ,-qA,-qB,h,hk,h5,h6,i64];intro hh;have:=hh _ (AZ h);omega
    ·simp -implicitDefEqProofs[jJ,-qA,-qB,h,hk,h5,h6,i64];simp only[decide_eq_false h5,decide_eq_false h6,Bool.false_or]at h4;exact⟨by omega,⟨by omega,h4⟩,by omega⟩
  ·have hk: ¬i<ar:=by omega
   have e:i=args.length:=by omega
   rw[e,List.drop_length]at h4
   have h4': ∀x∈args,0≤x∧x<n:=by simpa using h4.symm
   rw[←h4]
   have k1:=joD neg abs den oa la od ld;have k2:=jit neg abs den;by_cases h9:kind=9
   ·simp -implicitDefEqProofs[jJ,-qA,-qB,hk,h9]
    (first|refine Ac k1 ?_|refine Ae k1 ?_)
    cases CV neg abs den<;>simp -implicitDefEqProofs[jJ,-qA,-qB]<;>exact h4'
   ·simp -implicitDefEqProofs[jJ,-qA,-qB,hk,h9]
    (first|refine Ac k2 ?_|refine Ae k2 ?_)
    cases DP neg abs den<;>simp -implicitDefEqProofs[jJ,-qA,-qB]<;>exact h4'
 ·simp -implicitDefEqProofs[jJ,-qA,-qB,h1,h2]
end Go.Va
