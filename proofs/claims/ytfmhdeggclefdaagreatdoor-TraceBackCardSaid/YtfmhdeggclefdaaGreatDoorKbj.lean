/- a part of the proof -/
import Derived.Test.YtfmhdeggclefdaaGreatDoorKay
import Derived.Test.YtfmhdeggclefdaaGreatDoorKas
import Derived.Test.YtfmhdeggclefdaaGreatDoorKbg
import Derived.Test.YtfmhdeggclefdaaGreatDoorKbi
import Derived.Test.YtfmhdeggclefdaaGreatDoorKaz
set_option linter.all false
set_option maxHeartbeats 4000000
set_option maxRecDepth 10000
namespace Go.Va
open Int renaming natCast_add → qA, natCast_mul → qB, natCast_emod → qC, natCast_ediv → qD, natCast_pow → qE
open List renaming reduceReplicate → qF
open Go.Proofs
theorem jjv(s:ByteArray)(i:Nat):s[i]? =(B s)[i]? :=by
 unfold B;by_cases h:i<s.size
 ·rw[getElem?_pos s i h,AD (by simpa using h)]
  rfl
 ·rw[getElem?_neg s i h,B9 (by simpa using h)]
theorem SV(s:ByteArray){i:Nat}(h:i<s.size):s[i]=(B s)[i]'(by rw[Hg];exact h):=rfl
theorem jdt{l:List UInt8}{i:Nat}(h:i<l.length):valB (l.take (i+1))=valB (l.take i)*10+(l[i].toNat - 48):=by
 unfold valB;rw[Cr h,List.foldl_append];rfl
theorem jgl(p c x:Nat):p*((c+10*x)%65536)+p*65536*((c+10*x)/65536)=p*c+10*(p*x):=by
 have h:=Nat.div_add_mod (c+10*x) 65536;have e:p*(c+10*x)=p*c+10*(p*x):=by rw[Nat.mul_add,Nat.mul_left_comm]
 rw[←e,Nat.mul_assoc,←Nat.mul_add,Nat.add_comm,h]
theorem Xn(s:ByteArray):CallsF Tryz.prog 335 [.c (.str s)] (.tup [.c (.d (Ad (limbs (natR (B s)).1))),.c (.d (.int .i64 (natR (B s)).2))]):=by
 have hsz:(B s).length=s.size:=Hg s
 unfold natR;refine cO Tryz.func335 rfl ?_;rcases MK s { data:= #[] } with⟨e,eb⟩|⟨e,eb⟩
 ·rw[if_pos (by rw[e];rfl)]
  simp -implicitDefEqProofs[jJ,-qA,-qB,-qC,-qD,-qE,-List.map_set,eb];rfl
 have h0:B s≠[]:=fun q=>e (by rw[←O9 s,q];rfl)
 rw[if_neg h0]
 have hpos:0<s.size:=by rw[←hsz];exact List.length_pos_iff.2 h0
 by_cases h1:1000<s.size
 ·rw[if_pos (by omega)]
  simp -implicitDefEqProofs[jJ,-qA,-qB,-qC,-qD,-qE,-List.map_set,eb,h1];rfl
 rw[if_neg (by omega)]
 have g0:(B s)[0]? =some (B s)[0]:=AD (by omega)
 have gs:s[0]? =some (B s)[0]:=by rw[jjv,g0]
 have hh:(B s).head? =some (B s)[0]:=by rw[List.head?_eq_getElem?,g0]
 have h48:(B s)[0]=48↔(B s)[0].toNat=48:=⟨fun h=>by rw[h];rfl,fun h=>UInt8.toNat_inj.1 h⟩
 rw[hh,hsz]
 simp only[Option.some.injEq,h48];clear hh h48 g0 h0 e;by_cases hz:1<s.size∧(B s)[0].toNat=48
 ·rw[if_pos hz]
  simp -implicitDefEqProofs[jJ,-qA,-qB,-qC,-qD,-qE,-List.map_set,eb,h1,gs,hz.1,hz.2];exact⟨hpos,rfl⟩
 rw[if_neg hz]
 have hcase:(1<s.size∧ ¬(B s)[0].toNat=48)∨ ¬1<s.size:=by
  by_cases c:1<s.size
  ·exact .inl ⟨c,fun q=>hz ⟨c,q⟩⟩
  ·exact .inr c
 generalize hF:(if (B s).all KI=true then (valB (B s),(0:Int)) else (0,9))=F;rcases hcase with⟨c1,c2⟩|c1
 case' inl=>
  simp -implicitDefEqProofs[jJ,-qA,-qB,-qC,-qD,-qE,-List.map_set,eb,h1,gs,c1,c2];refine⟨hpos,?_⟩
 case' inr=>simp -implicitDefEqProofs[jJ,-qA,-qB,-qC,-qD,-qE,-List.map_set,eb,h1,gs,c1]
 all_goals
  refine CE [(4,71)] (fun z:Nat×List Nat=>⟨[(26,vI .i64 z.1),(25,vI .i64 s.size),(4,vC (.sl 4 0 z.2.length)),(0,vC (.d (.str s)))],[(4,.row 1 (z.2.map u16) true)]⟩)
   (fun z=>z.1≤s.size∧z.2=limbs (valB ((B s).take z.1))∧((B s).take z.1).all KI=true∧z.2.length≤z.1) (fun z=>s.size - z.1) (0,[]) (by simp[AW,lk,St.le,vI,vC]) ⟨by omega,by simp[valB,Cm],by simp,by simp⟩ ?_
  rintro⟨i,x⟩ ⟨z1,z2,z3,z4⟩
  simp only at z1 z2 z3 z4;by_cases hi:i<s.size
  ·have hi':i<(B s).length:=by omega
   have gi:=SV s hi;have hv:=jdt hi';have ht:((B s).take (i+1)).all KI=(((B s).take i).all KI&&KI (B s)[i]):=by
    rw[Cr hi',List.all_append]
    simp
   by_cases hd:KI (B s)[i]=true
   ·have hd':=hd;unfold KI at hd';simp only[AR,decide_eq_true_eq]at hd';generalize (B s)[i]=b at*;have dn: ¬57<b.toNat:=by omega
    have dm: ¬b.toNat<48:=by omega
    have hw:IntKind.u32.wrap (((b.toNat:Int) - 48)%256)=((b.toNat - 48:Nat):Int):=by
     rw[show((b.toNat:Int) - 48)%256=((b.toNat - 48:Nat):Int) by omega]
     simp only[IntKind.wrap,IntKind.signed,IntKind.bits];simp;omega
    simp -implicitDefEqProofs[jJ,-qA,-qB,-qC,-qD,-qE,-List.map_set,hi,gi,hd'.1,hd'.2,dn,dm,hw];refine AV (fun y:Nat×Nat×List Nat=>⟨[(46,vI .i64 y.1),(45,vI .i64 x.length),(6,vI .u32 y.2.1),(26,vI .i64 i),(25,vI .i64 s.size),(4,vC (.sl 4 0 x.length)),(0,vC (.d (.str s)))],[(4,.row 1 (y.2.2.map u16) true)]⟩)
     (fun y=>y.1≤x.length∧y.2.1≤9∧Ok y.2.2∧y.2.2.length=x.length∧y.2.2.drop y.1=x.drop y.1∧val (y.2.2.take y.1)+65536^y.1*y.2.1=10*val (x.take y.1)+(b.toNat - 48)) (fun y=>x.length - y.1) (0,b.toNat - 48,x)
     (by simp[AW,lk,St.le,vI,vC]) ⟨by simp,by show b.toNat - 48≤9;omega,by rw[z2];exact Aw _,rfl,rfl,by simp[val]⟩ ?_
    have ox:Ok x:=by rw[z2];exact Aw _
    rintro⟨k,c,o⟩ ⟨y1,y2,y3,y4,y5,y6⟩
    simp only at y1 y2 y3 y4 y5 y6;by_cases hk:k<x.length
    ·have hko:k<o.length:=by omega
     have hxo:o[k]=x[k]:=by
      have:=congrArg (·[0]?) y5
      simpa [List.getElem?_drop,AD hk,AD hko]using this
     have hxk:=ox.get (AD hk);have ex:=Dp hk;rw[AL,AD hk,Option.getD_some]at ex;have es:(c+10*x[k])%4294967296=c+10*x[k]:=by omega
     simp -implicitDefEqProofs[jJ,-qA,-qB,-qC,-qD,-qE,-List.map_set,hk,hko,hxo,u16];refine⟨by omega,by omega,k+1,(c+10*x[k])/65536,o.set k ((c+10*x[k])%65536),⟨⟨rfl,by rw[es]⟩,rfl⟩,⟨by omega,by omega,y3.set _ (by omega),by simpa using y4,?_,?_⟩,by omega⟩
     ·rw[List.drop_set_of_lt (by omega),←List.drop_drop,y5,List.drop_drop]
     ·have hA:=jgl (65536^k) c x[k];rw[jma hko,ex,Nat.pow_succ];omega
    ·have hk2:k=x.length:=by omega
     subst hk2;rw[Ba (by omega),BM,z2,Az,←z2]at y6
     generalize valB (List.take i (B s))=m at*;have hq:x=[]∨65536^(x.length - 1)≤m:=by
      by_cases h:x=[]
      ·exact .inl h
      ·have:=List.length_pos_iff.2 h
       rw[z2]at this ⊢
       exact .inr (jkW (by omega))
     have hall: ∀y∈List.take (i+1) (B s),KI y=true:=jzy.1 (by rw[ht,z3,hd];rfl)
     by_cases hc:0<c
     ·have hs:o++[c]=limbs (valB (List.take (i+1) (B s))):=by
       have e1:val (o++[c])=10*m+(b.toNat - 48):=by rw[Ks,y4];omega
       have e2:65536^x.length*1≤65536^x.length*c:=Nat.mul_le_mul_left _ hc;have:=jd6 (o:=o++[c]) (y3.app (Ok.nil.cons (by omega))) (.inr (by rw[List.length_append,List.length_singleton,Nat.add_sub_cancel,e1,y4];omega))
       rw[e1]at this
       rw[this,hv,Nat.mul_comm]
      have hc6:c%65536=c:=by omega
      simp -implicitDefEqProofs[jJ,-qA,-qB,-qC,-qD,-qE,-List.map_set,hk,hc,y4,u16];exact⟨⟨by omega,by omega⟩,by omega,i+1,o++[c],⟨⟨rfl,by rw[List.length_append,y4];rfl⟩,by rw[List.map_append,hc6];rfl⟩,⟨by omega,hs,hall,by rw[List.length_append,y4];simp;omega⟩,by omega⟩
     ·have hc0:c=0:=by omega
      subst hc0;have hs:o=limbs (valB (List.take (i+1) (B s))):=by
       have e1:val o=10*m+(b.toNat - 48):=by omega
       have:=jd6 y3 (by
        rcases hq with rfl|hq
        ·exact .inl (jzv.1 y4)
        ·exact .inr (by rw[y4,e1];omega))
       rw[e1]at this
       rw[this,hv,Nat.mul_comm]
      simp -implicitDefEqProofs[jJ,-qA,-qB,-qC,-qD,-qE,-List.map_set,hk,y4,u16];exact⟨by omega,i+1,o,⟨⟨rfl,y4.symm⟩,rfl⟩,⟨by omega,hs,hall,by omega⟩,by omega⟩
   ·have hF0:F=(0,9):=by
     rw[←hF,if_neg]
     intro q;exact hd (jzy.1 q _ (AZ hi'))
    subst hF0;have hd':(B s)[i].toNat<48∨ ¬(B s)[i].toNat<48∧57<(B s)[i].toNat:=by
     unfold KI at hd;simp only[AR,decide_eq_true_eq]at hd;omega
    generalize (B s)[i]=b at*;rcases hd' with q|⟨q,q2⟩
    ·simp -implicitDefEqProofs[jJ,-qA,-qB,-qC,-qD,-qE,-List.map_set,hi,gi,q];rfl
    ·simp -implicitDefEqProofs[jJ,-qA,-qB,-qC,-qD,-qE,-List.map_set,hi,gi,q,q2];rfl
  ·have hi2:i=s.size:=by omega
   subst hi2;have hF0:F=(valB (B s),0):=by
    rw[←hF,if_pos]
    rwa [←hsz,BM]at z3
   subst hF0;rw[←hsz,BM]at z2;simp -implicitDefEqProofs[jJ,-qA,-qB,-qC,-qD,-qE,-List.map_set,hi];rw[z2]
theorem jdi(s p:ByteArray):(B p).isPrefixOf (B s)=true↔p.size≤s.size∧s.extract 0 p.size=p:=by
 rw[List.isPrefixOf_iff_prefix]
 constructor
 ·rintro⟨t,ht⟩
  have hl:=congrArg List.length ht;rw[List.length_append,Hg,Hg]at hl;refine⟨by omega,T9 ?_⟩
  rw[Mq,←ht,←Hg p,List.take_left,List.drop_zero]
 ·rintro⟨h1,h2⟩
  have:=congrArg B h2
  rw[Mq,List.drop_zero]at this
  exact⟨(B s).drop p.size,by rw[←this,List.take_append_drop]⟩
theorem jd2(s p:ByteArray):(B p).isSuffixOf (B s)=true↔p.size≤s.size∧s.extract (s.size - p.size) s.size=p:=by
 have hs:=Hg s;rw[List.isSuffixOf_iff_suffix]
 constructor
 ·rintro⟨t,ht⟩
  have hl:=congrArg List.length ht;rw[List.length_append,Hg,Hg]at hl;refine⟨by omega,T9 ?_⟩
  rw[Mq,←hs,BM,hs,←ht,show s.size - p.size=t.length by omega,List.drop_left]
 ·rintro⟨h1,h2⟩
  have:=congrArg B h2
  rw[Mq,←hs,BM,hs]at this
  exact⟨(B s).take (s.size - p.size),by rw[←this,List.take_append_drop]⟩
def KZ(s:ByteArray)(o:Option (List UInt8)):R:=match o with
 |some r=> .tup [.c (.d (.str (Ch r))),.c (.d (.bool true))]
 |none=> .tup [.c (.d (.str s)),.c (.d (.bool false))]
theorem jjc(s p:ByteArray):CallsF Tryz.prog 91 [.c (.str s),.c (.str p)] (.u (.c (.d (.bool ((B p).isPrefixOf (B s)))))):=by
 have h:=jdi s p;refine cO Tryz.func91 rfl ?_;by_cases h1:p.size≤s.size
 ·rcases MK (s.extract 0 p.size) p with⟨e,eb⟩|⟨e,eb⟩
  ·rw[h.2 ⟨h1,e⟩]
   simp -implicitDefEqProofs[jJ,-qA,-qB,h1,eb]
  ·have:(B p).isPrefixOf (B s)=false:=by
    cases hq:(B p).isPrefixOf (B s)with
    |false=>rfl
    |true=>exact absurd (h.1 hq).2 e
   rw[this]
   simp -implicitDefEqProofs[jJ,-qA,-qB,h1,eb]
 ·have:(B p).isPrefixOf (B s)=false:=by
   cases hq:(B p).isPrefixOf (B s)with
   |false=>rfl
   |true=>exact absurd (h.1 hq).1 h1
  rw[this]
  simp -implicitDefEqProofs[jJ,-qA,-qB,h1]
theorem jmC(s p:ByteArray)(hz:s.size≤1000000):CallsF Tryz.prog 92 [.c (.str s),.c (.str p)] (.u (.c (.d (.bool ((B p).isSuffixOf (B s)))))):=by
 have h:=jd2 s p;refine cO Tryz.func92 rfl ?_;by_cases h1:p.size≤s.size
 ·have hx:s.size - p.size+(s.size - (s.size - p.size))=s.size:=by omega
  have hi:(s.size:Int) - (p.size:Int)=((s.size - p.size:Nat):Int):=by omega
  rcases MK (s.extract (s.size - p.size) s.size) p with⟨e,eb⟩|⟨e,eb⟩
  ·rw[h.2 ⟨h1,e⟩]
   simp -implicitDefEqProofs[jJ,-qA,-qB,h1,hi,hx,eb];omega
  ·have:(B p).isSuffixOf (B s)=false:=by
    cases hq:(B p).isSuffixOf (B s)with
    |false=>rfl
    |true=>exact absurd (h.1 hq).2 e
   rw[this]
   simp -implicitDefEqProofs[jJ,-qA,-qB,h1,hi,hx,eb];omega
 ·have:(B p).isSuffixOf (B s)=false:=by
   cases hq:(B p).isSuffixOf (B s)with
   |false=>rfl
   |true=>exact absurd (h.1 hq).1 h1
  rw[this]
  simp -implicitDefEqProofs[jJ,-qA,-qB,h1]
theorem jmO(s p:ByteArray):Dk (B s) (B p)=if (B p).isPrefixOf (B s)=true then some (B (s.extract p.size s.size)) else none:=by
 unfold Dk;split
 ·rw[Mq,Hg,←Hg s,BM]
 ·rfl
theorem jmJ(s p:ByteArray):LI (B s) (B p)=if (B p).isSuffixOf (B s)=true then some (B (s.extract 0 (s.size - p.size))) else none:=by
 unfold LI;split
 ·rw[Mq,Hg,Hg,List.drop_zero]
 ·rfl
theorem jmn(s p:ByteArray):CallsF Tryz.prog 49 [.c (.str s),.c (.str p)] (KZ s (Dk (B s) (B p))):=by
 have k:=jjc s p;have h:=jdi s p;rw[jmO];cases hq:(B p).isPrefixOf (B s)with
 |false=>
  rw[hq]at k
  unfold KZ;refine cO Tryz.func49 rfl ?_;simp -implicitDefEqProofs[jJ,-qA,-qB]
  (first|refine Ac k ?_|refine Ae k ?_)
  simp -implicitDefEqProofs[jJ,-qA,-qB]
 |true=>
  rw[hq]at k
  have h1:=(h.1 hq).1;have hx:p.size+(s.size - p.size)=s.size:=by omega
  unfold KZ;refine cO Tryz.func49 rfl ?_;simp -implicitDefEqProofs[jJ,-qA,-qB]
  (first|refine Ac k ?_|refine Ae k ?_)
  simp -implicitDefEqProofs[jJ,-qA,-qB,h1,hx]
theorem jjk(s p:ByteArray)(hz:s.size≤1000000):CallsF Tryz.prog 50 [.c (.str s),.c (.str p)] (KZ s (LI (B s) (B p))):=by
 have k:=jmC s p hz;have h:=jd2 s p;rw[jmJ];cases hq:(B p).isSuffixOf (B s)with
 |false=>
  rw[hq]at k
  unfold KZ;refine cO Tryz.func50 rfl ?_;simp -implicitDefEqProofs[jJ,-qA,-qB]
  (first|refine Ac k ?_|refine Ae k ?_)
  simp -implicitDefEqProofs[jJ,-qA,-qB]
 |true=>
  rw[hq]at k
  have h1:=(h.1 hq).1;have hi:(s.size:Int) - (p.size:Int)=((s.size - p.size:Nat):Int):=by omega
  unfold KZ;refine cO Tryz.func50 rfl ?_;simp -implicitDefEqProofs[jJ,-qA,-qB]
  (first|refine Ac k ?_|refine Ae k ?_)
  simp -implicitDefEqProofs[jJ,-qA,-qB,h1,hi];omega
theorem VQ(s p:ByteArray):CallsF Tryz.prog 20 [.c (.str s),.c (.str p)] (KZ s (Dk (B s) (B p))):=by
 have k:=jmn s p;unfold KZ at*;cases hq:Dk (B s) (B p)with
 |none=>
  rw[hq]at k
  refine cO Tryz.func20 rfl ?_;simp -implicitDefEqProofs[jJ,-qA,-qB]
  (first|refine Ac k ?_|refine Ae k ?_)
  simp -implicitDefEqProofs[jJ,-qA,-qB]
 |some r=>
  rw[hq]at k
  refine cO Tryz.func20 rfl ?_;simp -implicitDefEqProofs[jJ,-qA,-qB]
  (first|refine Ac k ?_|refine Ae k ?_)
  simp -implicitDefEqProofs[jJ,-qA,-qB]
theorem jak(s p:ByteArray)(hz:s.size≤1000000):CallsF Tryz.prog 21 [.c (.str s),.c (.str p)] (KZ s (LI (B s) (B p))):=by
 have k:=jjk s p hz;unfold KZ at*;cases hq:LI (B s) (B p)with
 |none=>
  rw[hq]at k
  refine cO Tryz.func21 rfl ?_;simp -implicitDefEqProofs[jJ,-qA,-qB]
  (first|refine Ac k ?_|refine Ae k ?_)
  simp -implicitDefEqProofs[jJ,-qA,-qB]
 |some r=>
  rw[hq]at k
  refine cO Tryz.func21 rfl ?_;simp -implicitDefEqProofs[jJ,-qA,-qB]
  (first|refine Ac k ?_|refine Ae k ?_)
  simp -implicitDefEqProofs[jJ,-qA,-qB]
theorem jmK(w:List UInt8):(ruleR w=0∧ ∀k:Nat,1≤k→k≤28→Bp k≠w)∨ ∃k:Nat,1≤k∧k≤28∧ruleR w=k∧Bp k=w∧ ∀j:Nat,1≤j→j<k→Bp j≠w:=by
 unfold ruleR;cases hf:(List.range 28).find? fun(n:Nat)=>Bp ((n+1:Nat):Int)==w with
 |none=>
  refine .inl ⟨rfl,fun k h1 h2 e=> ?_⟩
  have:=List.find?_eq_none.1 hf (k - 1) (List.mem_range.2 (by omega))
  rw[show k - 1+1=k by omega,e]at this
  simp at this
 |some n=>
  have h1:=List.find?_some hf;have h2:=List.mem_range.1 (List.mem_of_find?_eq_some hf);refine .inr ⟨n+1,by omega,by omega,rfl,by simpa using h1,fun j j1 j2 e=> ?_⟩
  have i1:=Vx (j - 1) (by omega)
  have i2:=Vx n h2;rw[show j - 1+1=j by omega,e]at i1
  rw[show Bp ((n+1:Nat):Int)=w by simpa using h1,i1]at i2
  omega
theorem jjs:CallsF Tryz.prog 98 [] (.u (.c (.d (.int .i64 28)))):=by
 refine cO Tryz.func98 rfl ?_;simp -implicitDefEqProofs[jJ,-qA,-qB,-qF]
theorem jaw(n:Int):CallsF Tryz.prog 10 [.c (.int .i64 n)] (.u (.c (.d (.int .i64 (Md n))))):=by
 have k1:=Yz n;unfold Md;generalize rulT n=r at*;simp only[Rul.res,Rul.ds,MB]at k1;refine cO Tryz.func10 rfl ?_;by_cases h:n=0
 ·simp -implicitDefEqProofs[jJ,-qA,-qB,-qF,h]
 ·rcases MK (bs r.name) { data:= #[] } with⟨e,eb⟩|⟨e,eb⟩
  ·have h1:r.name=[]:=by
    have:=congrArg B e
    exact this
   rw[if_pos h1]
   simp -implicitDefEqProofs[jJ,-qA,-qB,-qF,h]
   (first|refine Ac k1 ?_|refine Ae k1 ?_)
   simp -implicitDefEqProofs[jJ,-qA,-qB,-qF,eb]
  ·have h1:r.name≠[]:=fun q=>e (by rw[q];rfl)
   rw[if_neg h1]
   simp -implicitDefEqProofs[jJ,-qA,-qB,-qF,h]
   (first|refine Ac k1 ?_|refine Ae k1 ?_)
   simp -implicitDefEqProofs[jJ,-qA,-qB,-qF,eb]
theorem jgN(s:ByteArray):CallsF Tryz.prog 54 [.c (.str s)] (.u (.c (.d (.int .i64 (ruleR (B s)))))):=by
 have kc:=jjs;have hp:=jmK (B s);refine cO Tryz.func54 rfl ?_;simp -implicitDefEqProofs[jJ,-qA,-qB];refine AV (fun i:Nat=>⟨[(3,vI .i64 i),(0,vC (.d (.str s)))],[]⟩) (fun i=>1≤i∧i≤29∧ ∀j:Nat,1≤j→j<i→Bp j≠B s) (fun i=>29 - i) 1 (by simp[AW,lk,St.le,vI,vC]) ⟨by omega,by omega,fun j h1 h2=>by omega⟩ ?_
 rintro i ⟨hi0,hi,hx⟩
 simp -implicitDefEqProofs[jJ,-qA,-qB]
 (first|refine Ac kc ?_|refine Ae kc ?_)
 by_cases hlt:i≤28
 ·have ka:=YC i;rcases MK (Ch (Bp i)) s with⟨e,eb⟩|⟨e,eb⟩
  ·have hk:ruleR (B s)=i:=by
    rcases hp with⟨_,q⟩|⟨k,p1,p2,p3,p4,p5⟩
    ·exact absurd (by rw[←e];rfl) (q i hi0 hlt)
    ·have:k=i:=by
      rcases Nat.lt_trichotomy k i with q|q|q
      ·exact absurd p4 (hx k p1 q)
      ·exact q
      ·exact absurd (by rw[←e];rfl) (p5 i hi0 q)
     rw[p3,this]
   rw[e]at ka eb
   rw[hk]
   simp -implicitDefEqProofs[jJ,-qA,-qB,hlt]
   (first|refine Ac ka ?_|refine Ae ka ?_)
   simp -implicitDefEqProofs[jJ,-qA,-qB,eb]
  ·have hne:Bp i≠B s:=fun q=>e (by rw[q];rfl)
   generalize Ch (Bp i)=W at*;simp -implicitDefEqProofs[jJ,-qA,-qB,hlt]
   (first|refine Ac ka ?_|refine Ae ka ?_)
   simp -implicitDefEqProofs[jJ,-qA,-qB,eb];exact⟨by omega,⟨by omega,fun j j1 j2=>by
    by_cases q:j=i
    ·rw[q];exact hne
    ·exact hx j j1 (by omega)⟩,by omega⟩
 ·have hk:ruleR (B s)=0:=by
   rcases hp with⟨q,_⟩|⟨k,p1,p2,p3,p4,p5⟩
   ·exact q
   ·exact absurd p4 (hx k p1 (by omega))
  rw[hk]
  simp -implicitDefEqProofs[jJ,-qA,-qB,hlt]
end Go.Va
