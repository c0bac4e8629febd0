/- a part of the proof -/
import Derived.Test.YtpklcnmcllbbjaaGreatDoorJaz
import Derived.Test.YtpklcnmcllbbjaaGreatDoorJay
import Derived.Test.YtpklcnmcllbbjaaGreatDoorJav
import Derived.Test.YtpklcnmcllbbjaaGreatDoorJau
import Derived.Test.YtpklcnmcllbbjaaGreatDoorJaw
import Derived.Test.YtpklcnmcllbbjaaGreatDoorJao
set_option linter.all false
set_option maxHeartbeats 4000000
set_option maxRecDepth 10000
namespace Go.Va
open Int renaming natCast_add → qA, natCast_mul → qB, natCast_emod → qC, natCast_ediv → qD, natCast_pow → qE
open List renaming reduceReplicate → qF
open Go.Proofs
theorem jcV(k:Int)(hk:arity k≠0):CallsF Tryz.prog 96 [.c (.int .i64 k)] (.u (.c (.d (.str (Ch (By k)))))):=by
 unfold By;refine cO Tryz.func96 rfl ?_;by_cases h1:k=1
 ·subst h1;simp -implicitDefEqProofs[jJ,-qA,-qB];rfl
 by_cases h2:k=2
 ·subst h2;simp -implicitDefEqProofs[jJ,-qA,-qB];rfl
 by_cases h3:k=3
 ·subst h3;simp -implicitDefEqProofs[jJ,-qA,-qB];rfl
 by_cases h4:k=4
 ·subst h4;simp -implicitDefEqProofs[jJ,-qA,-qB];rfl
 by_cases h5:k=5
 ·subst h5;simp -implicitDefEqProofs[jJ,-qA,-qB];rfl
 by_cases h6:k=6
 ·subst h6;simp -implicitDefEqProofs[jJ,-qA,-qB];rfl
 by_cases h7:k=7
 ·subst h7;simp -implicitDefEqProofs[jJ,-qA,-qB];rfl
 by_cases h8:k=8
 ·subst h8;simp -implicitDefEqProofs[jJ,-qA,-qB];rfl
 by_cases h9:k=9
 ·subst h9;simp -implicitDefEqProofs[jJ,-qA,-qB];rfl
 exact absurd (by simp[arity,h1,h2,h3,h4,h5,h6,h7,h8,h9]) hk
theorem Pf{f:Fct}{n:Int}(h:wrong f n=0):arity f.kind≠0∧(∀a∈f.args,0≤a∧a<n)∧(f.kind=9→CV f.neg f.abs f.den=true):=by
 unfold wrong at h;by_cases h1:arity f.kind=0
 ·rw[if_pos h1]at h;cases h
 rw[if_neg h1]at h
 by_cases h2:f.args.length≠arity f.kind
 ·rw[if_pos h2]at h;cases h
 rw[if_neg h2]at h
 by_cases h3:f.args.any (fun a=>decide (a<0)||decide (n≤a))=true
 ·rw[if_pos h3]at h;cases h
 rw[if_neg h3]at h
 refine⟨h1,fun a ha=> ?_,fun h9=> ?_⟩
 ·have:=List.any_eq_false.1 (Bool.eq_false_iff.2 h3) a ha
  simp at this;omega
 ·rw[if_pos h9]at h
  cases hr:CV f.neg f.abs f.den with
  |true=>rfl
  |false=>rw[hr]at h;cases h
def A2(ns:List ByteArray)(a:Int):ByteArray:=ns.getD a.toNat ⟨#[]⟩
theorem Gi{ns:List ByteArray}{a:Int}(h0:0≤a)(h1:a<ns.length):ns[a.toNat]? =some (A2 ns a):=by
 have h:a.toNat<ns.length:=by omega
 unfold A2;rw[AD h,AL,AD h];rfl
theorem Hc{ns:List ByteArray}(h: ∀s∈ns,s.size≤30)(a:Int):(A2 ns a).size≤30:=Er h a
def strsD(l:List ByteArray):List D:=l.map D.str
@[simp]theorem HR(l:List ByteArray):(strsD l).length=l.length:=by simp[strsD]
theorem Hq(l:List ByteArray)(x:ByteArray):strsD (l++[x])=strsD l++[.str x]:=by simp[strsD]
def mapTo{α β:Type}(f:α→β)(l:List α)(i:Nat):List β:=(l.take i).map f
theorem CA{α β:Type}(f:α→β)(l:List α):mapTo f l 0=[]:=rfl
theorem DC{α β:Type}(f:α→β){l:List α}{i:Nat}(h:i≤l.length):(mapTo f l i).length=i:=by
 unfold mapTo;rw[List.length_map,A8];omega
theorem D9{α β:Type}(f:α→β){l:List α}{i:Nat}(h:i<l.length):mapTo f l (i+1)=mapTo f l i++[f l[i]]:=by
 unfold mapTo;rw[Cr h,List.map_append];rfl
theorem Eo{α β:Type}(f:α→β)(l:List α):mapTo f l l.length=l.map f:=by
 unfold mapTo;rw[BM]
theorem G4(l:List ByteArray)(hN:l.length≤1000)(hlen: ∀s∈l,s.size≤100):
  CallsF Tryz.prog 51 [.c (.slice l.length (strsD l)),.c (.str { data:= #[44,32] })] (.u (.c (.d (.str (Ch (Bc (l.map B))))))):=
 Xa l { data:= #[44,32] } (by omega) (by
  have:=Dn (k:=100) (l.map B) fun x hx=>by
   obtain⟨s,hs,rfl⟩:=jzk.1 hx
   exact hlen s hs
  rw[List.length_map]at this
  show(Bc (l.map B)).length≤_
  omega)
theorem Oh(f:Fct)(ns:List ByteArray)(hm:f.Mild)(hal:f.args.length≤20)(hl:ns.length≤60)(hn: ∀s∈ns,s.size≤30):
  CallsF Tryz.prog 50 [.agg f.ds,.c (A6 ns)] (Br (wrong f ns.length) (Bd f ns)):=by
 have k1:=RO f hm ns.length;have hw:=IB f.kind;obtain⟨kind,args,neg,abs,den⟩:=f;unfold Br;obtain⟨F,hF⟩: ∃F,F=Ch (Bd ⟨kind,args,neg,abs,den⟩ ns):=⟨_,rfl⟩;rw[←hF];unfold Bd DQ at hF;unfold A6;simp only at*;obtain⟨e,he⟩: ∃e,e=wrong ⟨kind,args,neg,abs,den⟩ (ns.length:Int):=⟨_,rfl⟩;rw[←he]at k1 ⊢;refine cO Tryz.func50 rfl ?_;simp -implicitDefEqProofs[jJ,-qA,-qB]
 (first|refine Ac k1 ?_|refine Ae k1 ?_)
 by_cases h0:e=0
 ·subst h0;obtain⟨z1,z2,z3⟩:=Pf he.symm;simp only at z1 z2 z3;have k2:=jcV kind z1;simp -implicitDefEqProofs[jJ,-qA,-qB];have hfin: ∀L:List ByteArray,L.length≤21→(∀s∈L,s.size≤100)→(Ch (Bc (L.map B))).size≤2200:=fun L h1 h2=>by
   have:=Dn (k:=100) (L.map B) fun x hx=>by
    obtain⟨s,hs,rfl⟩:=jzk.1 hx
    exact h2 s hs
   rw[List.length_map]at this
   rw[Ja]
   omega
  have hsz: ∀s∈mapTo (A2 ns) args args.length,s.size≤100:=fun s hs=>by
   unfold mapTo at hs;obtain⟨a,_,rfl⟩:=jzk.1 hs;have:=Hc hn a;omega
  have hmap:(mapTo (A2 ns) args args.length).map B=args.map (AN ns):=by
   rw[Eo,List.map_map]
   rfl
  have hws:=Ja (By kind);have hs1:({ data:= #[40] }:ByteArray).size=1:=rfl;have hs2:({ data:= #[41] }:ByteArray).size=1:=rfl;have hres: ∀W C:List UInt8,Ch W++{ data:= #[40] }++Ch C++{ data:= #[41] }=Ch (W++[40]++C++[41]):=fun W C=>by
   rw[show({ data:= #[40] }:ByteArray)=Ch [40] from rfl,show({ data:= #[41] }:ByteArray)=Ch [41] from rfl,Ng,Ng,Ng]
  refine CE [(7,30)] (fun i:Nat=>⟨[(20,vI .i64 i),(19,vI .i64 args.length),(18,vC (.d (AT args))),(7,vC (.sl 7 0 i)),(2,vC (.ptr 2 0)),(1,vC (.d (EC D.str ns)))],
   [(7,.row 1 (strsD (mapTo (A2 ns) args i)) true),(2,.box [.d (.int .i64 kind),.d (AT args),.d (.bool neg),.d (Ad abs),.d (Ad den)])]⟩)
   (fun i=>i≤args.length) (fun i=>args.length - i) 0 (by simp[AW,lk,St.le,vI,vC,CA,strsD]) (by omega) ?_
  intro i hi;have hlen:=DC (A2 ns) hi;by_cases h:i<args.length
  ·have g0:args[i]? =some args[i]:=AD h
   obtain⟨r0,r1⟩:=z2 _ (AZ h)
   have g1:=Gi r0 r1;have e1:=D9 (A2 ns) h;have e2:=Hq (mapTo (A2 ns) args i) (A2 ns args[i]);rw[←e1]at e2;simp -implicitDefEqProofs[jJ,-qA,-qB,h,g0,i64,g1,hlen];exact⟨⟨r0,r1⟩,⟨by omega,by omega⟩,by omega,i+1,⟨rfl,e2.symm⟩,by omega,by omega⟩
  ·have hi2:i=args.length:=by omega
   subst hi2;have kj0:=G4 (mapTo (A2 ns) args args.length) (by omega) hsz
   have hf0:=hfin _ (by omega) hsz
   have hSM:=HR (mapTo (A2 ns) args args.length);rw[hlen]at hSM;by_cases h9:kind=9
   ·subst h9;have kt:=jhM neg abs den hm.oa hm.od hm.la hm.ld (z3 rfl);have hrl:=Jg (neg:=neg) (hm.oa.ltW hm.la) (hm.od.ltW hm.ld);have e2:=Hq (mapTo (A2 ns) args args.length) (Ch (BL neg (val abs) (val den)));have hL:(mapTo (A2 ns) args args.length++[Ch (BL neg (val abs) (val den))]).length=args.length+1:=by rw[List.length_append,hlen];rfl
    have hsz2: ∀s∈mapTo (A2 ns) args args.length++[Ch (BL neg (val abs) (val den))],s.size≤100:=fun s hs=>by
     rcases List.mem_append.1 hs with hs|hs
     ·exact hsz s hs
     ·rw[List.mem_singleton.1 hs,Ja];exact hrl
    have kj:=G4 _ (by rw[hL];omega) hsz2
    have hf:=hfin _ (by rw[hL];omega) hsz2
    rw[List.map_append,hmap]at kj hf
    rw[hL,e2]at kj
    rw[if_pos rfl,←hres]at hF
    generalize mapTo (A2 ns) args args.length=M at*;generalize strsD M=SM at*;rw[show Bc (args.map (AN ns)++[BL neg (val abs) (val den)])=Bc (args.map (AN ns)++List.map B [Ch (BL neg (val abs) (val den))]) from rfl]at hF
    generalize Ch (Bc (args.map (AN ns)++List.map B [Ch (BL neg (val abs) (val den))]))=C at*;generalize hR:Ch (BL neg (val abs) (val den))=R at*;generalize hW:Ch (By 9)=Wd at*;have hS2:(SM++[D.str R]).length=args.length+1:=by rw[List.length_append,hSM];rfl
    have hS3:(SM++[D.str R]).take (args.length+1)=SM++[D.str R]:=Ba (by omega)
    generalize hSR:SM++[D.str R]=SR at*;simp -implicitDefEqProofs[jJ,-qA,-qB,hlen]
    (first|refine Ac kt ?_|refine Ae kt ?_)
    simp -implicitDefEqProofs[jJ,-qA,-qB,hlen,hSR];refine⟨hSM,⟨by omega,by omega⟩,?_⟩
    (first|refine Ac k2 ?_|refine Ae k2 ?_)
    simp -implicitDefEqProofs[jJ,-qA,-qB,G6,hs1,hlen,hSR,hS2,hS3];refine⟨by omega,?_⟩
    (first|refine Ac kj ?_|refine Ae kj ?_)
    simp -implicitDefEqProofs[jJ,-qA,-qB,G6,hs1,hs2,hF];omega
   ·rw[if_neg h9,List.append_nil,←hres]at hF
    rw[hmap]at kj0 hf0
    rw[hlen]at kj0
    generalize mapTo (A2 ns) args args.length=M at*;generalize strsD M=SM at*;generalize Ch (Bc (args.map (AN ns)))=C at*;generalize Ch (By kind)=Wd at*;have hS3:SM.take args.length=SM:=Ba (by omega)
    simp -implicitDefEqProofs[jJ,-qA,-qB,h9,hlen]
    (first|refine Ac k2 ?_|refine Ae k2 ?_)
    simp -implicitDefEqProofs[jJ,-qA,-qB,G6,hs1,hlen,hSM,hS3];refine⟨by omega,?_⟩
    (first|refine Ac kj0 ?_|refine Ae kj0 ?_)
    simp -implicitDefEqProofs[jJ,-qA,-qB,G6,hs1,hs2,hF];omega
 ·simp -implicitDefEqProofs[jJ,-qA,-qB,h0];rfl
def M9:List (List Nat):=(Ah [0,1,0,7])
@[simp]def KD:List Seg:=[.any [] [] (Aq [[1],[5],[]]),.one]
theorem Zj{n:Nat}(h:n≠0):Lib.decDigits n=BI n:=by unfold BI;rw[if_neg h]
theorem MK(n:Nat)(hn:n<18446744073709551616):CallsF Tryz.prog 180 [.c (Ad (limbs n))] (.u (.c (.d (.str (Ch (Lib.decDigits n)))))):=by
 have ln:=IK hn;have k0:=CM (limbs n) (Aw _) (by omega)
 rw[Az]at k0
 have k1:=C6 10 (by omega)
 refine cO Tryz.func180 rfl ?_;simp -implicitDefEqProofs[jJ,-qA,-qB,-qC,-qD,-qE]
 (first|refine Ac k0 ?_|refine Ae k0 ?_)
 by_cases h0:n=0
 ·subst h0;simp -implicitDefEqProofs[jJ,-qA,-qB,-qC,-qD,-qE,Cm];rw[Lib.decDigits];rfl
 ·have hp:(limbs n).length≠0:=fun h=>h0 (limbs_nil.1 (jzv.1 h))
  simp -implicitDefEqProofs[jJ,-qA,-qB,-qC,-qD,-qE,hp];refine AV (fun p:Nat×List UInt8=>⟨[(0,vC (.d (Ad (limbs p.1)))),(3,vC (.d (.str (Ch p.2))))],[]⟩) (fun p=>BI p.1++p.2=BI n∧p.1≤n∧p.2.length≤100) (fun p=>p.1) (n,[])
   (by simp[AW,lk,St.le,vI,vC,Ch]) ⟨by simp,AO _,by simp⟩ ?_
  rintro⟨m,l⟩ ⟨h1,h2,h3⟩
  simp only at h1 h2 h3;have lm:=IK (show m<18446744073709551616 by omega)
  have kd:=jac (limbs m) (limbs 10) (Aw _) (by omega) (Aw _) (by decide) (by rw[Az];omega) (by rw[Az];omega) (by rw[Az];omega)
  have ks:=OX (limbs (m%10)) (Aw _) (IK (by omega))
  rw[Az,Az]at kd
  rw[Az]at ks
  by_cases hm:m=0
  ·subst hm;simp -implicitDefEqProofs[jJ,-qA,-qB,-qC,-qD,-qE,Cm];rw[Zj h0,←h1];rfl
  ·have hp2:0<(limbs m).length:=limbs_pos_len.2 (by omega)
   simp -implicitDefEqProofs[jJ,-qA,-qB,-qC,-qD,-qE,hp2]
   (first|refine Ac k1 ?_|refine Ae k1 ?_)
   simp -implicitDefEqProofs[jJ,-qA,-qB,-qC,-qD,-qE]
   (first|refine Ac kd ?_|refine Ae kd ?_)
   simp -implicitDefEqProofs[jJ,-qA,-qB,-qC,-qD,-qE]
   (first|refine Ac ks ?_|refine Ae ks ?_)
   simp -implicitDefEqProofs[jJ,-qA,-qB,-qC,-qD,-qE,convC,Un,S0,Ce,Iv,AP,MM,G6];have hd:BI m=BI (m/10)++[UInt8.ofNat (48+m%10)]:=by
    have q:=jkd (m:=m/10) (x:=m%10) (by omega) (by omega)
    rwa [show m/10*10+m%10=m by omega]at q
   have hn20:=jaM (k:=19) (n:=n) (by omega)
   have h4:BI (m/10)++(UInt8.ofNat (48+m%10)::l)=BI n:=by
    rw[←h1,hd]
    simp
   refine⟨by rw[Ja];omega,m/10,UInt8.ofNat (48+m%10)::l,⟨rfl,?_⟩,⟨h4,by omega,?_⟩,by omega⟩
   ·rw[show(48+m%10)%256=48+m%10 by omega,show ByteArray.empty.push (UInt8.ofNat (48+m%10))=Ch [UInt8.ofNat (48+m%10)] from rfl,Ng]
    rfl
   ·have:=congrArg List.length h4
    rw[List.length_append]at this
    omega
theorem US(neg:Bool)(m:Nat)(hm:m<18446744073709551616):CallsF Tryz.prog 179 [.agg [.bool neg,Ad (limbs m)]] (.u (.c (.d (.str (Ch (intW neg m)))))):=by
 have lm:=IK hm;have k0:=IS neg (limbs m) (Aw _) (by omega)
 rw[Az]at k0
 have k1:=MK m hm;have hl:=I5 (n:=m) (by omega)
 have hz:=Ja (Lib.decDigits m);have ha:=Ng [45] (Lib.decDigits m);have hs1:({ data:= #[45] }:ByteArray).size=1:=rfl;have h1:(Ch [45])={ data:= #[45] }:=rfl;rw[h1]at ha;unfold intW;generalize Lib.decDigits m=dm at*;generalize hT:Ch dm=T at*;refine cO Tryz.func179 rfl ?_;by_cases h:neg=true∧m≠0
 ·rw[if_pos h]
  obtain⟨rfl,h0⟩:=h
  simp -implicitDefEqProofs[jJ,-qA,-qB,-qC,-qD,-qE]
  (first|refine Ac k0 ?_|refine Ae k0 ?_)
  have h0':0<m:=by omega
  simp -implicitDefEqProofs[jJ,-qA,-qB,-qC,-qD,-qE,AU,sg,h0']
  (first|refine Ac k1 ?_|refine Ae k1 ?_)
  simp -implicitDefEqProofs[jJ,-qA,-qB,-qC,-qD,-qE,G6,hs1,ha];omega
 ·rw[if_neg h,List.nil_append,hT]
  have hsg:sg neg m=false:=by
   unfold sg;cases neg with
   |false=>rfl
   |true=>simp only[Bool.true_and,decide_eq_false_iff_not];intro h2;exact h ⟨rfl,by omega⟩
  simp -implicitDefEqProofs[jJ,-qA,-qB,-qC,-qD,-qE]
  (first|refine Ac k0 ?_|refine Ae k0 ?_)
  simp -implicitDefEqProofs[jJ,-qA,-qB,-qC,-qD,-qE,AU,hsg]
  (first|refine Ac k1 ?_|refine Ae k1 ?_)
  simp -implicitDefEqProofs[jJ,-qA,-qB,-qC,-qD,-qE]
theorem PC(neg:Bool)(m d:Nat)(hm:m<18446744073709551616)(hd:d<18446744073709551616)(d0:d≠0)(hg:Nat.gcd m d=1):
  CallsF Tryz.prog 103 [.agg [.bool neg,Ad (limbs m),Ad (limbs d)]] (.u (.c (.d (.str (Ch (intW neg m++(if d=1 then [] else 47::Lib.decDigits d))))))):=by
 have k0:=I2 neg m d (by omega) (by omega) d0 hg
 have ld:=IK hd;have k1:=C6 1 (by omega)
 have k2:=T9 (limbs d) (limbs 1) (by omega)
 have k3:=US (sg neg m) m hm;have k4:=MK d hd;have hsg:intW (sg neg m) m=intW neg m:=by
  unfold intW sg;cases neg with
  |false=>rfl
  |true=>
   by_cases h:m=0
   ·subst h;rfl
   ·rw[if_pos ⟨by simp;omega,h⟩,if_pos ⟨rfl,h⟩]
 rw[hsg]at k3
 have h1:decide (limbs d=limbs 1)=decide (d=1):=by
  rw[decide_eq_decide]
  exact Hx
 rw[h1]at k2
 have hl1:(intW neg m).length≤40:=by
  have:=I5 (n:=m) (by omega)
  unfold intW;rw[List.length_append];split<;>simp<;>omega
 have hl2:=I5 (n:=d) (by omega)
 have hz1:=Ja (intW neg m);have hz2:=Ja (Lib.decDigits d);have a1:=Ng (intW neg m) [47];have a2:=Ng (intW neg m++[47]) (Lib.decDigits d);have hz3:=Ja (intW neg m++[47]);have h47:(Ch [47])={ data:= #[47] }:=rfl;have hs1:({ data:= #[47] }:ByteArray).size=1:=rfl;rw[h47]at a1;rw[List.length_append,List.length_singleton]at hz3;by_cases hd1:d=1
 ·subst hd1;rw[if_pos rfl,List.append_nil];generalize intW neg m=wi at*;refine cO Tryz.func103 rfl ?_;simp -implicitDefEqProofs[jJ,-qA,-qB,-qC,-qD,-qE]
  (first|refine Ac k0 ?_|refine Ae k0 ?_)
  simp -implicitDefEqProofs[jJ,-qA,-qB,-qC,-qD,-qE];refine AA M9 KD (by rfl) ?_
  simp -implicitDefEqProofs[jJ,-qA,-qB,-qC,-qD,-qE]
  (first|refine Ac k1 ?_|refine Ae k1 ?_)
  simp -implicitDefEqProofs[jJ,-qA,-qB,-qC,-qD,-qE]
  (first|refine Ac k2 ?_|refine Ae k2 ?_)
  simp -implicitDefEqProofs[jJ,-qA,-qB,-qC,-qD,-qE]
  (first|refine Ac k3 ?_|refine Ae k3 ?_)
  simp -implicitDefEqProofs[jJ,-qA,-qB,-qC,-qD,-qE]
 ·rw[if_neg hd1]
  have hfin:Ch (intW neg m++47::Lib.decDigits d)=Ch (intW neg m)++{ data:= #[47] }++Ch (Lib.decDigits d):=by
   rw[a1,a2,List.append_assoc,List.singleton_append]
  rw[hfin]
  generalize intW neg m=wi at*;generalize Lib.decDigits d=wn at*;generalize hT1:Ch wi=T1 at*;generalize hT2:Ch wn=T2 at*;generalize hT3:Ch (wi++[47])=T3 at*;refine cO Tryz.func103 rfl ?_;simp -implicitDefEqProofs[jJ,-qA,-qB,-qC,-qD,-qE]
  (first|refine Ac k0 ?_|refine Ae k0 ?_)
  simp -implicitDefEqProofs[jJ,-qA,-qB,-qC,-qD,-qE];refine AA M9 KD (by rfl) ?_
  simp -implicitDefEqProofs[jJ,-qA,-qB,-qC,-qD,-qE]
  (first|refine Ac k1 ?_|refine Ae k1 ?_)
  simp -implicitDefEqProofs[jJ,-qA,-qB,-qC,-qD,-qE]
  (first|refine Ac k2 ?_|refine Ae k2 ?_)
  simp -implicitDefEqProofs[jJ,-qA,-qB,-qC,-qD,-qE,hd1];refine AA (Ah [0,1,3,7,0,16,55,127,255]) [.any [] [] (Aq [[1],[12],[13],[14],[1],[16],[17]]),.one,.one] (by rfl) ?_
  simp -implicitDefEqProofs[jJ,-qA,-qB,-qC,-qD,-qE]
  (first|refine Ac k3 ?_|refine Ae k3 ?_)
  simp -implicitDefEqProofs[jJ,-qA,-qB,-qC,-qD,-qE,G6,a1,hs1];refine⟨by omega,?_⟩
  (first|refine Ac k4 ?_|refine Ae k4 ?_)
  simp -implicitDefEqProofs[jJ,-qA,-qB,-qC,-qD,-qE,G6,a1,hs1];omega
theorem WQ(n:Int)(h0: -9223372036854775808≤n)(h1:n<9223372036854775808):CallsF Tryz.prog 59 [.c (.int .i64 n)] (.u (.agg (AU (decide (n<0)) n.natAbs))):=by
 by_cases hn:n<0
 ·obtain⟨m,rfl⟩: ∃m:Nat,n= -((m:Int)+1):=⟨(-n - 1).toNat,by omega⟩
  have hm:m<9223372036854775808:=by omega
  have k1:=C6 m (by omega)
  have k2:=C6 1 (by omega)
  have k3:=R9 (limbs m) (limbs 1) (Aw _) (by have:=IK (show m<18446744073709551616 by omega);omega) (Aw _) (by decide)
  have k4:=E6 true (limbs (m+1)) (Aw _) (by have:=IK (show m+1<18446744073709551616 by omega);omega)
  rw[Az,Az]at k3
  rw[Az]at k4
  rw[decide_eq_true hn,show(-((m:Int)+1)).natAbs=m+1 by omega]
  refine cO Tryz.func59 rfl ?_;have e1: -((m:Int)+1)<0:=by omega
  have e2: -((m:Int)+1)+1= -(m:Int):=by omega
  simp -implicitDefEqProofs[jJ,-qA,-qB,-qC,-qD,-qE,hn,e1,e2];refine⟨by omega,by omega,?_⟩
  have e3: -(-((m+1:Nat):Int)+1)=(m:Int):=by omega
  have e4:IntKind.u64.wrap (m:Int)=(m:Int):=by show(m:Int)%18446744073709551616=m;omega
  rw[e3,e4]
  (first|refine Ac k1 ?_|refine Ae k1 ?_)
  simp -implicitDefEqProofs[jJ,-qA,-qB,-qC,-qD,-qE]
  (first|refine Ac k2 ?_|refine Ae k2 ?_)
  simp -implicitDefEqProofs[jJ,-qA,-qB,-qC,-qD,-qE]
  (first|refine Ac k3 ?_|refine Ae k3 ?_)
  simp -implicitDefEqProofs[jJ,-qA,-qB,-qC,-qD,-qE]
  (first|refine Ac k4 ?_|refine Ae k4 ?_)
  simp -implicitDefEqProofs[jJ,-qA,-qB,-qC,-qD,-qE,AU]
 ·obtain⟨m,rfl⟩: ∃m:Nat,n=m:=⟨n.toNat,by omega⟩
  rw[decide_eq_false hn]
  exact Nk m (by omega)
theorem jaP(n:Int):sg (decide (n<0)) n.natAbs=decide (n<0):=by
 unfold sg;by_cases h:n<0
 ·rw[decide_eq_true h];simp;omega
 ·rw[decide_eq_false h];rfl
theorem Oj(n:Int)(h0: -9223372036854775808≤n)(h1:n<9223372036854775808):CallsF Tryz.prog 56 [.c (.int .i64 n)] (.u (.c (.d (.str (Ch (digI n)))))):=by
 have k1:=WQ n h0 h1;have k2:=C6 1 (by omega)
 have k3:=Ix (decide (n<0)) n.natAbs 1 (by omega) (by omega) (by omega) (Nat.gcd_one_right _)
 have k4:=PC (decide (n<0)) n.natAbs 1 (by omega) (by omega) (by omega) (Nat.gcd_one_right _)
 rw[if_pos rfl,List.append_nil]at k4
 have hs:=jaP n;have ko:CallsF Tryz.prog 60 [.c (.int .i64 n)] (.u (.agg [.d (.bool (decide (n<0))),.d (Ad (limbs n.natAbs)),.d (Ad (limbs 1))])):=by
  rw[hs]at k3
  unfold AU at k1;rw[hs]at k1;generalize decide (n<0)=b at*;generalize limbs n.natAbs=L at*;refine cO Tryz.func60 rfl ?_;simp -implicitDefEqProofs[jJ,-qA,-qB,-qC,-qD,-qE]
  (first|refine Ac k1 ?_|refine Ae k1 ?_)
  simp -implicitDefEqProofs[jJ,-qA,-qB,-qC,-qD,-qE]
  (first|refine Ac k2 ?_|refine Ae k2 ?_)
  simp -implicitDefEqProofs[jJ,-qA,-qB,-qC,-qD,-qE]
  (first|refine Ac k3 ?_|refine Ae k3 ?_)
  simp -implicitDefEqProofs[jJ,-qA,-qB,-qC,-qD,-qE]
 unfold digI;generalize intW (decide (n<0)) n.natAbs=wi at*;generalize decide (n<0)=b at*;generalize limbs n.natAbs=L at*;refine cO Tryz.func56 rfl ?_;simp -implicitDefEqProofs[jJ,-qA,-qB,-qC,-qD,-qE]
 (first|refine Ac ko ?_|refine Ae ko ?_)
 simp -implicitDefEqProofs[jJ,-qA,-qB,-qC,-qD,-qE]
 (first|refine Ac k4 ?_|refine Ae k4 ?_)
 simp -implicitDefEqProofs[jJ,-qA,-qB,-qC,-qD,-qE]
theorem jcf(k:Int)(hk:arity k≠0):CallsF Tryz.prog 102 [.c (.int .i64 k)] (.u (.c (.d (.str (Ch (By k)))))):=by
 unfold By;refine cO Tryz.func102 rfl ?_;by_cases h1:k=1
 ·subst h1;simp -implicitDefEqProofs[jJ,-qA,-qB];rfl
 by_cases h2:k=2
 ·subst h2;simp -implicitDefEqProofs[jJ,-qA,-qB];rfl
 by_cases h3:k=3
 ·subst h3;simp -implicitDefEqProofs[jJ,-qA,-qB];rfl
 by_cases h4:k=4
 ·subst h4;simp -implicitDefEqProofs[jJ,-qA,-qB];rfl
 by_cases h5:k=5
 ·subst h5;simp -implicitDefEqProofs[jJ,-qA,-qB];rfl
 by_cases h6:k=6
 ·subst h6;simp -implicitDefEqProofs[jJ,-qA,-qB];rfl
 by_cases h7:k=7
 ·subst h7;simp -implicitDefEqProofs[jJ,-qA,-qB];rfl
 by_cases h8:k=8
 ·subst h8;simp -implicitDefEqProofs[jJ,-qA,-qB];rfl
 by_cases h9:k=9
 ·subst h9;simp -implicitDefEqProofs[jJ,-qA,-qB];rfl
 exact absurd (by simp[arity,h1,h2,h3,h4,h5,h6,h7,h8,h9]) hk
theorem Rz{f:Fct}{n:Int}(h:wrong f n=0):f.args.length=arity f.kind:=by
 unfold wrong at h;by_cases h1:arity f.kind=0
 ·rw[if_pos h1]at h;cases h
 rw[if_neg h1]at h
 by_cases h2:f.args.length≠arity f.kind
 ·rw[if_pos h2]at h;cases h
 simpa using h2
def A3(w:List UInt8)(l:List (List UInt8)):List UInt8:=w++Bc l
theorem Eb(w:List UInt8):A3 w []=w:=by simp[A3,Bc,Lib.join_nil]
theorem H9(w x:List UInt8):Ch (A3 w [x])=Ch w++Ch x:=by
 rw[Ng]
 have:=Mj [] x
 simp only[List.nil_append,if_pos]at this;unfold A3;rw[this]
theorem F2(w:List UInt8){l:List (List UInt8)}(x:List UInt8)(h:l≠[]):Ch (A3 w (l++[x]))=Ch (A3 w l)++{ data:= #[44,32] }++Ch x:=by
 rw[show({ data:= #[44,32] }:ByteArray)=Ch [44,32] from rfl,Ng,Ng]
 unfold A3;rw[Mj,if_neg h];simp
theorem HX{w:List UInt8}{l:List (List UInt8)}{k:Nat}(h: ∀x∈l,x.length≤k):(Ch (A3 w l)).size≤w.length+l.length*(k+2):=by
 have:=Dn l h
 rw[Ja]
 unfold A3;rw[List.length_append];omega
theorem H0{α β:Type}(f:α→β){l:List α}{i:Nat}(h:i≤l.length)(h0:i≠0):mapTo f l i≠[]:=fun e=>by
 have:=DC f h
 rw[e]at this
 exact h0 this.symm
theorem Hf(ns:List ByteArray)(a:Int):Ch (AN ns a)=A2 ns a:=rfl
theorem Wz(f:Fct)(ns:List ByteArray)(hm:f.Mild)(h2a:f.abs.length≤2)(h2d:f.den.length≤2)(hal:f.args.length≤20)(hl:ns.length≤60)(hn: ∀s∈ns,s.size≤30):
  CallsF Tryz.prog 55 [.agg f.ds,.c (A6 ns)] (Br (wrong f ns.length) (Bd f ns)):=by
 have k1:=jbB f hm ns.length;have hw:=IB f.kind;obtain⟨kind,args,neg,abs,den⟩:=f;unfold Br;obtain⟨F,hF⟩: ∃F,F=Ch (Bd ⟨kind,args,neg,abs,den⟩ ns):=⟨_,rfl⟩;rw[←hF];unfold Bd DQ at hF;unfold A6;simp only at*;have wl:=fun h=>Rz (f:=⟨kind,args,neg,abs,den⟩) (n:=(ns.length:Int)) h
 obtain⟨e,he⟩: ∃e,e=wrong ⟨kind,args,neg,abs,den⟩ (ns.length:Int):=⟨_,rfl⟩
 rw[←he]at k1 wl ⊢
 refine cO Tryz.func55 rfl ?_;simp -implicitDefEqProofs[jJ,-qA,-qB]
 (first|refine Ac k1 ?_|refine Ae k1 ?_)
 by_cases h0:e=0
 ·subst h0;obtain⟨z1,z2,z3⟩:=Pf he.symm;simp only at z1 z2 z3;have wl:=wl rfl;simp only at wl;have k2:=jcf kind z1;have hws:=Ja (By kind);have hs1:({ data:= #[40] }:ByteArray).size=1:=rfl;have hs2:({ data:= #[41] }:ByteArray).size=1:=rfl;have hs3:({ data:= #[44,32] }:ByteArray).size=2:=rfl;have hres:Ch (By kind)++{ data:= #[40] }=Ch (A3 (By kind++[40]) []):=by
   rw[Eb,show({ data:= #[40] }:ByteArray)=Ch [40] from rfl,Ng]
  have hx: ∀i,∀x∈mapTo (AN ns) args i,x.length≤100:=fun i x hx=>by
   unfold mapTo at hx;obtain⟨a,_,rfl⟩:=jzk.1 hx;have:=Er hn a;omega
  have hwl:(By kind++[40]).length≤21:=by rw[List.length_append];simp only[List.length_singleton];omega
  generalize hWK:By kind++[40]=WK at*;simp -implicitDefEqProofs[jJ,-qA,-qB]
  (first|refine Ac k2 ?_|refine Ae k2 ?_)
  simp -implicitDefEqProofs[jJ,-qA,-qB,G6,hs1,hres];refine⟨by omega,?_⟩
  refine CE [] (fun i:Nat=>⟨[(24,vI .i64 i),(23,vI .i64 args.length),(22,vC (.d (AT args))),(7,vC (.d (.str (Ch (A3 WK (mapTo (AN ns) args i)))))),(2,vC (.ptr 2 0)),(1,vC (.d (EC D.str ns)))],
   [(2,.box [.d (.int .i64 kind),.d (AT args),.d (.bool neg),.d (Ad abs),.d (Ad den)])]⟩)
   (fun i=>i≤args.length) (fun i=>args.length - i) 0 (by simp[AW,lk,St.le,vI,vC,CA]) (by omega) ?_
  intro i hi;have hlen:=DC (AN ns) hi;have hsz:=HX (w:=WK) (hx i);rw[hlen]at hsz;by_cases h:i<args.length
  ·have g0:args[i]? =some args[i]:=AD h
   obtain⟨r0,r1⟩:=z2 _ (AZ h)
   have g1:=Gi r0 r1;have e1:=D9 (AN ns) h;have hns:=Hc hn args[i];have hmu:i*102≤2040:=by omega
   by_cases hi0:i=0
   ·subst hi0;have e2:=H9 WK (AN ns args[0]);rw[CA,List.nil_append]at e1;rw[←e1,Hf]at e2;rw[CA,Eb]at hsz ⊢;simp -implicitDefEqProofs[jJ,-qA,-qB,h,g0,i64,g1,G6,hs3];exact⟨⟨r0,r1⟩,by omega,1,⟨rfl,e2.symm⟩,by omega,by omega⟩
   ·have e2:=F2 WK (AN ns args[i]) (H0 (AN ns) hi hi0);rw[←e1,Hf]at e2;have hip:0<i:=by omega
    generalize Ch (A3 WK (mapTo (AN ns) args i))=S at*;simp -implicitDefEqProofs[jJ,-qA,-qB,h,hip,g0,i64,g1,G6,hs3];exact⟨by omega,⟨r0,r1⟩,by omega,by omega,i+1,⟨rfl,e2.symm⟩,by omega,by omega⟩
  ·have hi2:i=args.length:=by omega
   subst hi2;rw[Eo]at*;by_cases h9:kind=9
   ·subst h9;obtain⟨ea,ed,d0,hg,hng⟩:=Cz (z3 rfl) hm.oa hm.od;have va:=Bz abs hm.oa;have vd:=Bz den hm.od;have va':val abs<18446744073709551616:=Nat.lt_of_lt_of_le va (Nat.le_trans (Nat.pow_le_pow_right (by omega) h2a) (by decide))
    have vd':val den<18446744073709551616:=Nat.lt_of_lt_of_le vd (Nat.le_trans (Nat.pow_le_pow_right (by omega) h2d) (by decide))
    have kt:=PC neg (val abs) (val den) va' vd' d0 hg;rw[←ea,←ed]at kt;have hi:intW neg (val abs)++(if val den=1 then [] else 47::Lib.decDigits (val den))=BL neg (val abs) (val den):=by
     unfold BL intW;cases neg with
     |false=>simp
     |true=>simp[hng rfl]
    rw[hi]at kt
    have hrl:=Jg (neg:=neg) (hm.oa.ltW hm.la) (hm.od.ltW hm.ld);rw[←Ja]at hrl;have hne:args.map (AN ns)≠[]:=fun e=>by
     have:=congrArg List.length e
     rw[List.length_map,wl]at this
     cases this
    have hF2:F=Ch (A3 WK (args.map (AN ns)++[BL neg (val abs) (val den)]))++{ data:= #[41] }:=by
     rw[hF,if_pos rfl,show({ data:= #[41] }:ByteArray)=Ch [41] from rfl,Ng]
     rfl
    rw[F2 WK _ hne,ByteArray.append_assoc]at hF2
    generalize Ch (BL neg (val abs) (val den))=R at*;generalize Ch (A3 WK (args.map (AN ns)))=S at*;simp -implicitDefEqProofs[jJ,-qA,-qB]
    (first|refine Ac kt ?_|refine Ae kt ?_)
    simp -implicitDefEqProofs[jJ,-qA,-qB,G6,hs2,hs3,hF2,ByteArray.size_append];refine⟨by omega,by omega,by omega,?_⟩
    simp only[ByteArray.append_assoc]
   ·rw[if_neg h9,List.append_nil]at hF
    have hF2:F=Ch (A3 WK (args.map (AN ns)))++{ data:= #[41] }:=by
     rw[hF,show({ data:= #[41] }:ByteArray)=Ch [41] from rfl,Ng]
     rfl
    generalize Ch (A3 WK (args.map (AN ns)))=S at*;simp -implicitDefEqProofs[jJ,-qA,-qB,h9,G6,hs2,hF2];omega
 ·simp -implicitDefEqProofs[jJ,-qA,-qB,h0];rfl
theorem jaj(n:Int):CallsF Tryz.prog 49 [.c (.int .i64 n)] (.u (.c (.d (.str (bs (if n=0 then [103,105,118,101,110] else (rulT n).name)))))):=by
 have k1:=Yz n;generalize rulT n=r at*;simp only[Rul.res,Rul.ds,MB]at k1;refine cO Tryz.func49 rfl ?_;by_cases h:n=0
 ·simp -implicitDefEqProofs[jJ,-qA,-qB,-qF,h];rfl
 ·simp -implicitDefEqProofs[jJ,-qA,-qB,-qF,h]
  (first|refine Ac k1 ?_|refine Ae k1 ?_)
  simp -implicitDefEqProofs[jJ,-qA,-qB,-qF]
end Go.Va
