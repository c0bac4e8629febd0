/- a part of the proof -/
import Derived.Test.YtlgoebgnbkhmmaaGreatDoorZbl
import Derived.Test.YtlgoebgnbkhmmaaGreatDoorZau
import Derived.Test.YtlgoebgnbkhmmaaGreatDoorZbb
import Derived.Test.YtlgoebgnbkhmmaaGreatDoorZbk
import Derived.Test.YtlgoebgnbkhmmaaGreatDoorZbd
set_option linter.all false
set_option maxHeartbeats 4000000
set_option maxRecDepth 10000
namespace Go.Va
open Int renaming natCast_add → qA, natCast_mul → qB, natCast_emod → qC, natCast_ediv → qD, natCast_pow → qE
open List renaming reduceReplicate → qF
open Go.Proofs
def jcB:List (List Nat):=(Ah [0,0,3,0,0,24,56,120,255,511,1023])
@[simp]def jfP:List Seg:=[.any [] [] (Aq [[4],[],[36,37],[0],[5],[39,40],[41],[42]]),.one,.one,.one]
def M4(s:ByteArray):Nat→Nat→St
 |0,_=>⟨[(5,vI .i64 0),(4,vC (.sl 4 0 0)),(0,vC (.d (.str s)))],[(4,.row 1 [] true)]⟩
 |i+1,v=>⟨[(5,vI .i64 ((i+1:Nat):Int)),(4,vC (.d (Ad (limbs v)))),(0,vC (.d (.str s)))],[]⟩
theorem jhV{l:List UInt8}(h:l.all KI=true)(hl:l.length≤1000):(limbs (valB l)).length≤300:=by
 refine Ew _ _ (Nat.lt_of_lt_of_le (jfX l h) (Nat.le_trans (Nat.pow_le_pow_right (by omega) hl) ?_))
 decide+kernel
theorem XR(s:ByteArray):CallsF Tryz.prog 185 [.c (.str s)] (.tup [.c (.d (Ad (limbs (natR (B s)).1))),.c (.d (.int .i64 (natR (B s)).2))]):=by
 have hsz:(B s).length=s.size:=Hg s
 obtain⟨F,hF⟩: ∃F,F=natR (B s):=⟨_,rfl⟩
 rw[←hF]
 unfold natR at hF;refine cO Tryz.func185 rfl ?_;rcases MK s { data:= #[] } with⟨e,eb⟩|⟨e,eb⟩
 ·rw[if_pos (by rw[e];rfl)]at hF
  subst hF;simp -implicitDefEqProofs[jJ,-qA,-qB,-qC,-qD,-qE,eb,Cm];rfl
 have h0:B s≠[]:=fun q=>e (by rw[←O9 s,q];rfl)
 rw[if_neg h0]at hF
 by_cases h1:1000<s.size
 ·rw[if_pos (by omega)]at hF
  subst hF;simp -implicitDefEqProofs[jJ,-qA,-qB,-qC,-qD,-qE,eb,h1,Cm];rfl
 rw[if_neg (by omega)]at hF
 have hpos:0<s.size:=by rw[←hsz];exact List.length_pos_iff.2 h0
 have g0:(B s)[0]? =some (B s)[0]:=AD (by omega)
 have gs:s[0]'hpos=(B s)[0]:=rfl
 have hh:(B s).head? =some (B s)[0]:=by rw[List.head?_eq_getElem?,g0]
 have h48:(B s)[0]=48↔(B s)[0].toNat=48:=⟨fun h=>by rw[h];rfl,fun h=>UInt8.toNat_inj.1 h⟩
 rw[hh,hsz]at hF
 simp only[Option.some.injEq,h48]at hF;clear hh h48 g0 h0 e;have l10:(limbs 10).length≤10:=by have:=IK (n:=10) (by omega);omega
 have kO:=C6 10 (by omega)
 simp -implicitDefEqProofs[jJ,-qA,-qB,-qC,-qD,-qE,eb,h1];refine AV (fun z:Nat×Nat=>M4 s z.1 z.2) (fun z=>z.1≤s.size∧z.2=valB ((B s).take z.1)∧CB KI (B s) z.1∧(1<s.size∧(B s)[0].toNat=48→z.1≤1)) (fun z=>s.size - z.1) (0,0)
  (by simp[M4,AW,lk,St.le,vI,vC]) ⟨by omega,rfl,HJ _ _,fun _=>by omega⟩ ?_
 rintro⟨i,v⟩ ⟨z1,z2,z3,z4⟩
 simp only at z1 z2 z3 z4;have hvl:(limbs v).length≤300:=by
  rw[z2]
  exact jhV z3 (by rw[A8];omega)
 by_cases h:i<s.size
 ·have h':i<(B s).length:=by omega
  have gi:=SV s h;have hv:=jdt h';have hs:=fun q=>Iu h' z3 q
  have hn:=fun q=>Is h' (p:=KI) q
  clear z3;have hi0:i=0→(B s)[i]=(B s)[0]:=fun e=>by subst e;rfl
  generalize hc0:(B s)[0]=c0 at*;generalize (B s)[i]=c at*;by_cases hd:KI c=true
  ·have hs:=hs hd;have hvn:(limbs (v*10+(c.toNat - 48))).length≤300:=by
    rw[z2,←hv]
    exact jhV hs (by rw[A8];omega)
   have hd':=hd;unfold KI at hd';simp only[AR,decide_eq_true_eq]at hd';have dn: ¬57<c.toNat:=by omega
   have dm: ¬c.toNat<48:=by omega
   have hw:((c.toNat:Int) - 48)%256=((c.toNat - 48:Nat):Int):=by omega
   have kd:=C6 (c.toNat - 48) (by omega)
   have hu:(c.toNat - 48)%18446744073709551616=c.toNat - 48:=by omega
   have ld:(limbs (c.toNat - 48)).length≤10:=by have:=IK (n:=c.toNat - 48) (by omega);omega
   cases i with
   |zero=>
    have km:=LR [] (limbs 10) Ok.nil (Aw _) (by simp;omega)
    rw[Az,show val []=0 from rfl,Nat.zero_mul,Cm]at km
    have kA:=WM [] (limbs (c.toNat - 48)) Ok.nil (by simp) (Aw _) (by omega)
    rw[Az,show val []=0 from rfl,Nat.zero_add]at kA
    unfold M4;simp -implicitDefEqProofs[jJ,-qA,-qB,-qC,-qD,-qE,h,gi,dn,dm];refine AA (Ah [0,0,3,0,0,24,56,120,255,511,1023]) [.any [4] [] (Aq [[4],[],[36,37],[0],[5],[39,40],[41],[42]]),.one,.one,.one] (by rfl) ?_
    simp -implicitDefEqProofs[jJ,-qA,-qB,-qC,-qD,-qE,h,gi,hw,hu]
    (first|refine Ac kO ?_|refine Ae kO ?_)
    simp -implicitDefEqProofs[jJ,-qA,-qB,-qC,-qD,-qE]
    (first|refine Ac km ?_|refine Ae km ?_)
    simp -implicitDefEqProofs[jJ,-qA,-qB,-qC,-qD,-qE,h,gi,hw,hu]
    (first|refine Ac kd ?_|refine Ae kd ?_)
    simp -implicitDefEqProofs[jJ,-qA,-qB,-qC,-qD,-qE]
    (first|refine Ac kA ?_|refine Ae kA ?_)
    simp -implicitDefEqProofs[jJ,-qA,-qB,-qC,-qD,-qE];refine⟨1,c.toNat - 48,?_,⟨by omega,by rw[hv];simp[valB],hs,fun _=>by omega⟩,by omega⟩
    simp[M4,AW,lk,vC,vI]
   |succ i=>
    by_cases hz:i+1=1∧c0.toNat=48
    ·rw[if_pos ⟨by omega,hz.2⟩]at hF
     subst hF;have hi:i=0:=by omega
     subst hi;unfold M4;simp -implicitDefEqProofs[jJ,-qA,-qB,-qC,-qD,-qE,h,gi,dn,dm,gs,hc0,hz.2,hpos,Cm];rfl
    ·have km:=LR (limbs v) (limbs 10) (Aw _) (Aw _) (by omega)
     rw[Az,Az]at km
     have kA:=WM (limbs (v*10)) (limbs (c.toNat - 48)) (Aw _) (by have:=CG (show v*10≤v*10+(c.toNat - 48) by omega);omega) (Aw _) (by omega)
     rw[Az,Az]at kA
     have hzz:1<s.size∧c0.toNat=48→False:=fun q=>by have:=z4 q;exact hz ⟨by omega,q.2⟩
     have hst: ∃x:Nat×Nat,x=(i+1+1,v*10+(c.toNat - 48)):=⟨_,rfl⟩
     unfold M4;by_cases hi:i=0
     ·subst hi;have h48: ¬c0.toNat=48:=fun q=>hz ⟨rfl,q⟩
      simp -implicitDefEqProofs[jJ,-qA,-qB,-qC,-qD,-qE,h,gi,dn,dm,gs,hc0,h48,hpos];refine AA jcB jfP (by rfl) ?_
      simp -implicitDefEqProofs[jJ,-qA,-qB,-qC,-qD,-qE,h,gi,hw,hu]
      (first|refine Ac kO ?_|refine Ae kO ?_)
      simp -implicitDefEqProofs[jJ,-qA,-qB,-qC,-qD,-qE]
      (first|refine Ac km ?_|refine Ae km ?_)
      simp -implicitDefEqProofs[jJ,-qA,-qB,-qC,-qD,-qE,h,gi,hw,hu]
      (first|refine Ac kd ?_|refine Ae kd ?_)
      simp -implicitDefEqProofs[jJ,-qA,-qB,-qC,-qD,-qE]
      (first|refine Ac kA ?_|refine Ae kA ?_)
      simp -implicitDefEqProofs[jJ,-qA,-qB,-qC,-qD,-qE];refine⟨2,v*10+(c.toNat - 48),?_,?_,by omega⟩
      ·simp[M4,AW,lk,vC,vI]
      ·exact⟨by omega,by rw[hv,z2],hs⟩
     ·simp -implicitDefEqProofs[jJ,-qA,-qB,-qC,-qD,-qE,h,gi,dn,dm,hi];refine AA jcB jfP (by rfl) ?_
      simp -implicitDefEqProofs[jJ,-qA,-qB,-qC,-qD,-qE,h,gi,hw,hu]
      (first|refine Ac kO ?_|refine Ae kO ?_)
      simp -implicitDefEqProofs[jJ,-qA,-qB,-qC,-qD,-qE]
      (first|refine Ac km ?_|refine Ae km ?_)
      simp -implicitDefEqProofs[jJ,-qA,-qB,-qC,-qD,-qE,h,gi,hw,hu]
      (first|refine Ac kd ?_|refine Ae kd ?_)
      simp -implicitDefEqProofs[jJ,-qA,-qB,-qC,-qD,-qE]
      (first|refine Ac kA ?_|refine Ae kA ?_)
      simp -implicitDefEqProofs[jJ,-qA,-qB,-qC,-qD,-qE];refine⟨by omega,i+1+1,v*10+(c.toNat - 48),?_,?_,by omega⟩
      ·simp[M4,AW,lk,vC,vI]
      ·exact⟨by omega,by rw[hv,z2],hs,fun a b=>(hzz ⟨a,b⟩).elim⟩
  ·have hF0:F=(0,9):=by
    rw[hF]
    split
    ·rfl
    ·rw[if_neg (by rw[hn (by simpa using hd)];simp)]
   subst hF0;have hd':c.toNat<48∨ ¬c.toNat<48∧57<c.toNat:=by
    unfold KI at hd;simp only[AR,decide_eq_true_eq]at hd;omega
   cases i with
   |zero=>
    unfold M4;rcases hd' with d1|⟨d1,d2⟩
    ·simp -implicitDefEqProofs[jJ,-qA,-qB,-qC,-qD,-qE,h,gi,d1,Cm];rfl
    ·simp -implicitDefEqProofs[jJ,-qA,-qB,-qC,-qD,-qE,h,gi,d1,d2,Cm];rfl
   |succ i=>
    unfold M4;rcases hd' with d1|⟨d1,d2⟩
    ·simp -implicitDefEqProofs[jJ,-qA,-qB,-qC,-qD,-qE,h,gi,d1,Cm];rfl
    ·simp -implicitDefEqProofs[jJ,-qA,-qB,-qC,-qD,-qE,h,gi,d1,d2,Cm];rfl
 ·have hi2:i=(B s).length:=by omega
  subst hi2;have hnz: ¬(1<s.size∧(B s)[0].toNat=48):=fun q=>by have:=z4 q;omega
  rw[if_neg hnz,if_pos (HZ z3)]at hF
  rw[BM]at z2
  subst hF;rw[z2];cases hk:(B s).length with
  |zero=>omega
  |succ k=>
   unfold M4;simp -implicitDefEqProofs[jJ,-qA,-qB,-qC,-qD,-qE,show ¬k+1<s.size by omega]
theorem jdb(s:ByteArray)(hs:s.size≤100000):CallsF Tryz.prog 184 [.c (.str s)] (.tup [.agg [.d (.bool (intR (B s)).1),.d (Ad (limbs (intR (B s)).2.1))],.c (.d (.int .i64 (intR (B s)).2.2))]):=by
 have hsz:(B s).length=s.size:=Hg s
 by_cases hn:(B s).head? =some 45
 ·have ht:B (s.extract 1 s.size)=(B s).tail:=by
   rw[Mq,←hsz,BM]
   cases B s<;>rfl
  have k:=XR (s.extract 1 s.size);have hpos:0<s.size:=by
   rw[←hsz]
   cases hb:B s with
   |nil=>rw[hb]at hn;cases hn
   |cons=>simp
  have g0:s[0]'hpos=45:=by
   rw[SV s hpos]
   rw[List.head?_eq_getElem?,AD (by omega)]at hn
   exact Bi hn
  have hx:1+(s.size - 1)=s.size:=by omega
  have hln:=VX (B s).tail;unfold intR;simp only[hn,decide_true,if_true];rw[ht]at k;clear ht;generalize (B s).tail=l at*;obtain⟨n,e,hne⟩: ∃n e,natR l=(n,e):=⟨_,_,rfl⟩;rw[hne]at k hln ⊢;simp only at k hln ⊢;have km:=E6 true (limbs n) (Aw _) (by omega)
  rw[Az]at km
  have hl:= @SG n
  by_cases he:e=0
  ·subst he;by_cases h0:n=0
   ·subst h0;refine cO Tryz.func184 rfl ?_;simp -implicitDefEqProofs[jJ,-qA,-qB,-qC,-qD,-qE,g0,hpos,hx]
    try refine⟨by omega,?_⟩
    (first|refine Ac k ?_|refine Ae k ?_)
    simp -implicitDefEqProofs[jJ,-qA,-qB,-qC,-qD,-qE,Cm];rfl
   ·have hd:decide (0<n)=true:=by simp;omega
    have hz: ¬(limbs n).length=0:=fun q=>h0 (hl.1 q)
    unfold AU sg at km;rw[hd]at km;refine cO Tryz.func184 rfl ?_;simp -implicitDefEqProofs[jJ,-qA,-qB,-qC,-qD,-qE,g0,hpos,hx]
    try refine⟨by omega,?_⟩
    (first|refine Ac k ?_|refine Ae k ?_)
    simp -implicitDefEqProofs[jJ,-qA,-qB,-qC,-qD,-qE,hz,h0]
    (first|refine Ac km ?_|refine Ae km ?_)
    simp -implicitDefEqProofs[jJ,-qA,-qB,-qC,-qD,-qE,h0]
  ·refine cO Tryz.func184 rfl ?_;simp -implicitDefEqProofs[jJ,-qA,-qB,-qC,-qD,-qE,g0,hpos,hx]
   try refine⟨by omega,?_⟩
   (first|refine Ac k ?_|refine Ae k ?_)
   simp -implicitDefEqProofs[jJ,-qA,-qB,-qC,-qD,-qE,he];rfl
 ·have k:=XR s;have hln:=VX (B s);unfold intR;simp only[hn,decide_false,if_false,Bool.false_eq_true,false_and];generalize hq:natR (B s)=q at*;obtain⟨n,e⟩:=q;simp only at k hln ⊢;have km:=E6 false (limbs n) (Aw _) (by omega)
  rw[Az]at km
  unfold AU sg at km;by_cases hpos:0<s.size
  ·have g0: ¬(s[0]'hpos).toNat=45:=by
    rw[SV s hpos]
    rw[List.head?_eq_getElem?,AD (by omega)]at hn
    exact fun q=>hn (congrArg some (UInt8.toNat_inj.1 q))
   by_cases he:e=0
   ·subst he;refine cO Tryz.func184 rfl ?_;simp -implicitDefEqProofs[jJ,-qA,-qB,-qC,-qD,-qE,g0,hpos]
    try refine⟨by omega,?_⟩
    (first|refine Ac k ?_|refine Ae k ?_)
    simp -implicitDefEqProofs[jJ,-qA,-qB,-qC,-qD,-qE]
    (first|refine Ac km ?_|refine Ae km ?_)
    simp -implicitDefEqProofs[jJ,-qA,-qB,-qC,-qD,-qE]
   ·refine cO Tryz.func184 rfl ?_;simp -implicitDefEqProofs[jJ,-qA,-qB,-qC,-qD,-qE,g0,hpos]
    try refine⟨by omega,?_⟩
    (first|refine Ac k ?_|refine Ae k ?_)
    simp -implicitDefEqProofs[jJ,-qA,-qB,-qC,-qD,-qE,he];rfl
  ·have he: ¬e=0:=fun he=>by
    have hb:B s=[]:=jzv.1 (by omega)
    rw[hb,he]at hq
    have h9:=congrArg (·.2) hq;exact absurd h9 (by show ¬((10:Int)=0);decide)
   refine cO Tryz.func184 rfl ?_;simp -implicitDefEqProofs[jJ,-qA,-qB,-qC,-qD,-qE,hpos]
   try refine⟨by omega,?_⟩
   (first|refine Ac k ?_|refine Ae k ?_)
   simp -implicitDefEqProofs[jJ,-qA,-qB,-qC,-qD,-qE,he];rfl
theorem joU{l:List UInt8}{k:Nat}(h:k<l.length)(hk:l[k]=47)(ha:CB (fun c=> !decide (c=47)) l k):LW l=(l.take k,some (l.drop (k+1))):=by
 have key:=jfV (l:=l.take k) (r:=l.drop (k+1)) (fun c hc=>by
  have:=jzy.1 ha c hc
  simpa using this)
 rw[←hk,←BQ h,List.take_append_drop]at key
 exact key
theorem jpf(s:ByteArray)(hs:s.size≤100000):CallsF Tryz.prog 106 [.c (.str s)]
  (.tup [.agg [.d (.bool (M8 (B s)).1),.d (Ad (limbs (M8 (B s)).2.1)),.d (Ad (limbs (M8 (B s)).2.2.1))],.c (.d (.int .i64 (M8 (B s)).2.2.2))]):=by
 have hsz:(B s).length=s.size:=Hg s
 obtain⟨F,hF⟩: ∃F,F=M8 (B s):=⟨_,rfl⟩
 rw[←hF]
 have kO:=C6 1 (by omega)
 have l1:(limbs 1).length≤10:=by have:=IK (n:=1) (by omega);omega
 refine cO Tryz.func106 rfl ?_;simp -implicitDefEqProofs[jJ,-qA,-qB,-qC,-qD,-qE];refine AV (fun k:Nat=>⟨[(4,vI .i64 k),(2,vC (.ptr 2 0)),(0,vC (.d (.str s)))],[(2,.box [.d (.bool false),.nl,.nl])]⟩) (fun k=>k≤s.size∧CB (fun c=> !decide (c=47)) (B s) k) (fun k=>s.size - k) 0 (by simp[AW,lk,St.le,vI,vC]) ⟨by omega,HJ _ _⟩ ?_
 rintro k ⟨hk,ha⟩
 unfold M8 at hF;have k1:=jdb (s.extract 0 k) (by rw[ByteArray.size_extract];omega)
 have e1:B (s.extract 0 k)=(B s).take k:=by rw[Mq,List.drop_zero]
 rw[e1]at k1
 have hm:=je0 ((B s).take k);by_cases h:k<s.size
 ·have h':k<(B s).length:=by omega
  have gi:=SV s h;by_cases hc:(B s)[k]=47
  ·have hc2:((B s)[k]).toNat=47:=by rw[hc];rfl
   have hcut:=joU h' hc ha;have hne: ¬k=s.size:=by omega
   rw[hcut]at hF
   simp only at hF;have k2:=XR (s.extract (k+1) s.size);have e2:B (s.extract (k+1) s.size)=(B s).drop (k+1):=by rw[Mq,Ba (by omega)]
   rw[e2]at k2
   have hd:=VX ((B s).drop (k+1));have hx:k+1+(s.size - (k+1))=s.size:=by omega
   have hx2:k+1≤s.size:=by omega
   unfold Oj at hF;simp only at hF;clear ha hcut;generalize (B s)[k]=c at*;generalize intR ((B s).take k)=P at*;obtain⟨b,m,e⟩:=P;generalize natR ((B s).drop (k+1))=D at*;obtain⟨d,e'⟩:=D;simp only at hF k1 k2 hm hd;by_cases he:e=0
   ·rw[if_neg (by simpa using he)]at hF
    subst he;by_cases he':e'=0
    ·rw[if_neg (by simpa using he')]at hF
     subst he';by_cases d0:d=0
     ·rw[if_pos d0]at hF
      subst hF;subst d0;simp -implicitDefEqProofs[jJ,-qA,-qB,-qC,-qD,-qE,h,gi,hc2]
      try refine⟨by omega,?_⟩
      (first|refine Ac k1 ?_|refine Ae k1 ?_)
      simp -implicitDefEqProofs[jJ,-qA,-qB,-qC,-qD,-qE,hne,hx,hx2]
      try refine⟨by omega,?_⟩
      (first|refine Ac k2 ?_|refine Ae k2 ?_)
      simp -implicitDefEqProofs[jJ,-qA,-qB,-qC,-qD,-qE,Cm];rfl
     ·rw[if_neg d0]at hF
      have k3:=WH b m d (by omega) (by omega) d0
      have hz: ¬(limbs d).length=0:=fun q=>d0 ((@SG d).1 q)
      subst hF;unfold RB at k3;unfold O7;simp only;simp -implicitDefEqProofs[jJ,-qA,-qB,-qC,-qD,-qE,h,gi,hc2]
      try refine⟨by omega,?_⟩
      (first|refine Ac k1 ?_|refine Ae k1 ?_)
      simp -implicitDefEqProofs[jJ,-qA,-qB,-qC,-qD,-qE,hne,hx,hx2]
      try refine⟨by omega,?_⟩
      (first|refine Ac k2 ?_|refine Ae k2 ?_)
      simp -implicitDefEqProofs[jJ,-qA,-qB,-qC,-qD,-qE,hz,d0]
      (first|refine Ac k3 ?_|refine Ae k3 ?_)
      simp -implicitDefEqProofs[jJ,-qA,-qB,-qC,-qD,-qE]
    ·rw[if_pos (by simpa using he')]at hF
     subst hF;simp -implicitDefEqProofs[jJ,-qA,-qB,-qC,-qD,-qE,h,gi,hc2]
     try refine⟨by omega,?_⟩
     (first|refine Ac k1 ?_|refine Ae k1 ?_)
     simp -implicitDefEqProofs[jJ,-qA,-qB,-qC,-qD,-qE,hne,hx,hx2]
     try refine⟨by omega,?_⟩
     (first|refine Ac k2 ?_|refine Ae k2 ?_)
     simp -implicitDefEqProofs[jJ,-qA,-qB,-qC,-qD,-qE,he',Cm];rfl
   ·rw[if_pos (by simpa using he)]at hF
    subst hF;simp -implicitDefEqProofs[jJ,-qA,-qB,-qC,-qD,-qE,h,gi,hc2]
    try refine⟨by omega,?_⟩
    (first|refine Ac k1 ?_|refine Ae k1 ?_)
    simp -implicitDefEqProofs[jJ,-qA,-qB,-qC,-qD,-qE,he,Cm];rfl
  ·have hc2: ¬((B s)[k]).toNat=47:=fun q=>hc (UInt8.toNat_inj.1 q)
   have hn:=Iu h' ha (by simpa using hc)
   generalize (B s)[k]=c at*;simp -implicitDefEqProofs[jJ,-qA,-qB,-qC,-qD,-qE,h,gi,hc2];exact⟨by omega,⟨by omega,hn⟩,by omega⟩
 ·have hi2:k=(B s).length:=by omega
  have hcut:LW (B s)=(B s,none):=jdZ fun c hc=>by
   have:=jzy.1 ha c (by rw[hi2,BM];exact hc)
   simpa using this
  rw[hcut]at hF
  rw[hi2,BM]at hm
  clear k1;have kf:=jdb s hs;unfold Oj at hF;simp only at hF;clear ha;generalize intR (B s)=P at*;obtain⟨b,m,e⟩:=P;simp only at hF kf hm;have hkk:k=s.size:=by omega
  by_cases he:e=0
  ·rw[if_neg (by simpa using he)]at hF
   subst he;have k3:=WH b m 1 (by omega) (by omega) (by omega)
   subst hF;unfold RB at k3;unfold O7;simp only;subst hkk;simp -implicitDefEqProofs[jJ,-qA,-qB,-qC,-qD,-qE]
   try refine⟨by omega,?_⟩
   (first|refine Ac kf ?_|refine Ae kf ?_)
   simp -implicitDefEqProofs[jJ,-qA,-qB,-qC,-qD,-qE];refine AA (Ah [0,0,3,7,15]) [.any [] [] (Aq [[5],[]]),.one,.one,.one] (by rfl) ?_
   simp -implicitDefEqProofs[jJ,-qA,-qB,-qC,-qD,-qE]
   (first|refine Ac kO ?_|refine Ae kO ?_)
   simp -implicitDefEqProofs[jJ,-qA,-qB,-qC,-qD,-qE]
   (first|refine Ac k3 ?_|refine Ae k3 ?_)
   simp -implicitDefEqProofs[jJ,-qA,-qB,-qC,-qD,-qE]
  ·rw[if_pos (by simpa using he)]at hF
   subst hF;subst hkk;simp -implicitDefEqProofs[jJ,-qA,-qB,-qC,-qD,-qE]
   try refine⟨by omega,?_⟩
   (first|refine Ac kf ?_|refine Ae kf ?_)
   simp -implicitDefEqProofs[jJ,-qA,-qB,-qC,-qD,-qE,he,Cm];rfl
theorem jdi(s p:ByteArray):(B p).isPrefixOf (B s)=true↔p.size≤s.size∧s.extract 0 p.size=p:=by
 rw[List.isPrefixOf_iff_prefix]
 constructor
 ·rintro⟨t,ht⟩
  have hl:=congrArg List.length ht;rw[List.length_append,Hg,Hg]at hl;refine⟨by omega,T9 ?_⟩
  rw[Mq,←ht,←Hg p,List.take_left,List.drop_zero]
 ·rintro⟨h1,h2⟩
  have:=congrArg B h2
  rw[Mq,List.drop_zero]at this
  exact⟨(B s).drop p.size,by rw[←this,List.take_append_drop]⟩
theorem jd2(s p:ByteArray):(B p).isSuffixOf (B s)=true↔p.size≤s.size∧s.extract (s.size - p.size) s.size=p:=by
 have hs:=Hg s;rw[List.isSuffixOf_iff_suffix]
 constructor
 ·rintro⟨t,ht⟩
  have hl:=congrArg List.length ht;rw[List.length_append,Hg,Hg]at hl;refine⟨by omega,T9 ?_⟩
  rw[Mq,←hs,BM,hs,←ht,show s.size - p.size=t.length by omega,List.drop_left]
 ·rintro⟨h1,h2⟩
  have:=congrArg B h2
  rw[Mq,←hs,BM,hs]at this
  exact⟨(B s).take (s.size - p.size),by rw[←this,List.take_append_drop]⟩
def KZ(s:ByteArray)(o:Option (List UInt8)):R:=match o with
 |some r=> .tup [.c (.d (.str (Ch r))),.c (.d (.bool true))]
 |none=> .tup [.c (.d (.str s)),.c (.d (.bool false))]
theorem jjc(s p:ByteArray):CallsF Tryz.prog 95 [.c (.str s),.c (.str p)] (.u (.c (.d (.bool ((B p).isPrefixOf (B s)))))):=by
 have h:=jdi s p;refine cO Tryz.func95 rfl ?_;by_cases h1:p.size≤s.size
 ·rcases MK (s.extract 0 p.size) p with⟨e,eb⟩|⟨e,eb⟩
  ·rw[h.2 ⟨h1,e⟩]
   simp -implicitDefEqProofs[jJ,-qA,-qB,h1,eb]
  ·have:(B p).isPrefixOf (B s)=false:=by
    cases hq:(B p).isPrefixOf (B s)with
    |false=>rfl
    |true=>exact absurd (h.1 hq).2 e
   rw[this]
   simp -implicitDefEqProofs[jJ,-qA,-qB,h1,eb]
 ·have:(B p).isPrefixOf (B s)=false:=by
   cases hq:(B p).isPrefixOf (B s)with
   |false=>rfl
   |true=>exact absurd (h.1 hq).1 h1
  rw[this]
  simp -implicitDefEqProofs[jJ,-qA,-qB,h1]
theorem jmC(s p:ByteArray)(hz:s.size≤1000000):CallsF Tryz.prog 96 [.c (.str s),.c (.str p)] (.u (.c (.d (.bool ((B p).isSuffixOf (B s)))))):=by
 have h:=jd2 s p;refine cO Tryz.func96 rfl ?_;by_cases h1:p.size≤s.size
 ·have hx:s.size - p.size+(s.size - (s.size - p.size))=s.size:=by omega
  have hi:(s.size:Int) - (p.size:Int)=((s.size - p.size:Nat):Int):=by omega
  rcases MK (s.extract (s.size - p.size) s.size) p with⟨e,eb⟩|⟨e,eb⟩
  ·rw[h.2 ⟨h1,e⟩]
   simp -implicitDefEqProofs[jJ,-qA,-qB,h1,hi,hx,eb];omega
  ·have:(B p).isSuffixOf (B s)=false:=by
    cases hq:(B p).isSuffixOf (B s)with
    |false=>rfl
    |true=>exact absurd (h.1 hq).2 e
   rw[this]
   simp -implicitDefEqProofs[jJ,-qA,-qB,h1,hi,hx,eb];omega
 ·have:(B p).isSuffixOf (B s)=false:=by
   cases hq:(B p).isSuffixOf (B s)with
   |false=>rfl
   |true=>exact absurd (h.1 hq).1 h1
  rw[this]
  simp -implicitDefEqProofs[jJ,-qA,-qB,h1]
theorem jmO(s p:ByteArray):Dj (B s) (B p)=if (B p).isPrefixOf (B s)=true then some (B (s.extract p.size s.size)) else none:=by
 unfold Dj;split
 ·rw[Mq,Hg,←Hg s,BM]
 ·rfl
theorem jmJ(s p:ByteArray):LI (B s) (B p)=if (B p).isSuffixOf (B s)=true then some (B (s.extract 0 (s.size - p.size))) else none:=by
 unfold LI;split
 ·rw[Mq,Hg,Hg,List.drop_zero]
 ·rfl
theorem jmn(s p:ByteArray):CallsF Tryz.prog 49 [.c (.str s),.c (.str p)] (KZ s (Dj (B s) (B p))):=by
 have k:=jjc s p;have h:=jdi s p;rw[jmO];cases hq:(B p).isPrefixOf (B s)with
 |false=>
  rw[hq]at k
  unfold KZ;refine cO Tryz.func49 rfl ?_;simp -implicitDefEqProofs[jJ,-qA,-qB]
  (first|refine Ac k ?_|refine Ae k ?_)
  simp -implicitDefEqProofs[jJ,-qA,-qB]
 |true=>
  rw[hq]at k
  have h1:=(h.1 hq).1;have hx:p.size+(s.size - p.size)=s.size:=by omega
  unfold KZ;refine cO Tryz.func49 rfl ?_;simp -implicitDefEqProofs[jJ,-qA,-qB]
  (first|refine Ac k ?_|refine Ae k ?_)
  simp -implicitDefEqProofs[jJ,-qA,-qB,h1,hx]
theorem jjk(s p:ByteArray)(hz:s.size≤1000000):CallsF Tryz.prog 50 [.c (.str s),.c (.str p)] (KZ s (LI (B s) (B p))):=by
 have k:=jmC s p hz;have h:=jd2 s p;rw[jmJ];cases hq:(B p).isSuffixOf (B s)with
 |false=>
  rw[hq]at k
  unfold KZ;refine cO Tryz.func50 rfl ?_;simp -implicitDefEqProofs[jJ,-qA,-qB]
  (first|refine Ac k ?_|refine Ae k ?_)
  simp -implicitDefEqProofs[jJ,-qA,-qB]
 |true=>
  rw[hq]at k
  have h1:=(h.1 hq).1;have hi:(s.size:Int) - (p.size:Int)=((s.size - p.size:Nat):Int):=by omega
  unfold KZ;refine cO Tryz.func50 rfl ?_;simp -implicitDefEqProofs[jJ,-qA,-qB]
  (first|refine Ac k ?_|refine Ae k ?_)
  simp -implicitDefEqProofs[jJ,-qA,-qB,h1,hi];omega
theorem VQ(s p:ByteArray):CallsF Tryz.prog 18 [.c (.str s),.c (.str p)] (KZ s (Dj (B s) (B p))):=by
 have k:=jmn s p;unfold KZ at*;cases hq:Dj (B s) (B p)with
 |none=>
  rw[hq]at k
  refine cO Tryz.func18 rfl ?_;simp -implicitDefEqProofs[jJ,-qA,-qB]
  (first|refine Ac k ?_|refine Ae k ?_)
  simp -implicitDefEqProofs[jJ,-qA,-qB]
 |some r=>
  rw[hq]at k
  refine cO Tryz.func18 rfl ?_;simp -implicitDefEqProofs[jJ,-qA,-qB]
  (first|refine Ac k ?_|refine Ae k ?_)
  simp -implicitDefEqProofs[jJ,-qA,-qB]
theorem jak(s p:ByteArray)(hz:s.size≤1000000):CallsF Tryz.prog 19 [.c (.str s),.c (.str p)] (KZ s (LI (B s) (B p))):=by
 have k:=jjk s p hz;unfold KZ at*;cases hq:LI (B s) (B p)with
 |none=>
  rw[hq]at k
  refine cO Tryz.func19 rfl ?_;simp -implicitDefEqProofs[jJ,-qA,-qB]
  (first|refine Ac k ?_|refine Ae k ?_)
  simp -implicitDefEqProofs[jJ,-qA,-qB]
 |some r=>
  rw[hq]at k
  refine cO Tryz.func19 rfl ?_;simp -implicitDefEqProofs[jJ,-qA,-qB]
  (first|refine Ac k ?_|refine Ae k ?_)
  simp -implicitDefEqProofs[jJ,-qA,-qB]
theorem jmK(w:List UInt8):(ruleR w=0∧ ∀k:Nat,1≤k→k≤28→Bp k≠w)∨ ∃k:Nat,1≤k∧k≤28∧ruleR w=k∧Bp k=w∧ ∀j:Nat,1≤j→j<k→Bp j≠w:=by
 unfold ruleR;cases hf:(List.range 28).find? fun(n:Nat)=>Bp ((n+1:Nat):Int)==w with
 |none=>
  refine .inl ⟨rfl,fun k h1 h2 e=> ?_⟩
  have:=List.find?_eq_none.1 hf (k - 1) (List.mem_range.2 (by omega))
  rw[show k - 1+1=k by omega,e]at this
  simp at this
 |some n=>
  have h1:=List.find?_some hf;have h2:=List.mem_range.1 (List.mem_of_find?_eq_some hf);refine .inr ⟨n+1,by omega,by omega,rfl,by simpa using h1,fun j j1 j2 e=> ?_⟩
  have i1:=Vx (j - 1) (by omega)
  have i2:=Vx n h2;rw[show j - 1+1=j by omega,e]at i1
  rw[show Bp ((n+1:Nat):Int)=w by simpa using h1,i1]at i2
  omega
theorem jjs:CallsF Tryz.prog 102 [] (.u (.c (.d (.int .i64 28)))):=by
 refine cO Tryz.func102 rfl ?_;simp -implicitDefEqProofs[jJ,-qA,-qB,-qF]
theorem jaw(n:Int):CallsF Tryz.prog 56 [.c (.int .i64 n)] (.u (.c (.d (.int .i64 (Md n))))):=by
 have k1:=Yz n;unfold Md;generalize rulT n=r at*;simp only[Rul.res,Rul.ds,MB]at k1;refine cO Tryz.func56 rfl ?_;by_cases h:n=0
 ·simp -implicitDefEqProofs[jJ,-qA,-qB,-qF,h]
 ·rcases MK (bs r.name) { data:= #[] } with⟨e,eb⟩|⟨e,eb⟩
  ·have h1:r.name=[]:=by
    have:=congrArg B e
    exact this
   rw[if_pos h1]
   simp -implicitDefEqProofs[jJ,-qA,-qB,-qF,h]
   (first|refine Ac k1 ?_|refine Ae k1 ?_)
   simp -implicitDefEqProofs[jJ,-qA,-qB,-qF,eb]
  ·have h1:r.name≠[]:=fun q=>e (by rw[q];rfl)
   rw[if_neg h1]
   simp -implicitDefEqProofs[jJ,-qA,-qB,-qF,h]
   (first|refine Ac k1 ?_|refine Ae k1 ?_)
   simp -implicitDefEqProofs[jJ,-qA,-qB,-qF,eb]
theorem jgN(s:ByteArray):CallsF Tryz.prog 54 [.c (.str s)] (.u (.c (.d (.int .i64 (ruleR (B s)))))):=by
 have kc:=jjs;have hp:=jmK (B s);refine cO Tryz.func54 rfl ?_;simp -implicitDefEqProofs[jJ,-qA,-qB];refine AV (fun i:Nat=>⟨[(3,vI .i64 i),(0,vC (.d (.str s)))],[]⟩) (fun i=>1≤i∧i≤29∧ ∀j:Nat,1≤j→j<i→Bp j≠B s) (fun i=>29 - i) 1 (by simp[AW,lk,St.le,vI,vC]) ⟨by omega,by omega,fun j h1 h2=>by omega⟩ ?_
 rintro i ⟨hi0,hi,hx⟩
 simp -implicitDefEqProofs[jJ,-qA,-qB]
 (first|refine Ac kc ?_|refine Ae kc ?_)
 by_cases hlt:i≤28
 ·have ka:=YC i;rcases MK (Ch (Bp i)) s with⟨e,eb⟩|⟨e,eb⟩
  ·have hk:ruleR (B s)=i:=by
    rcases hp with⟨_,q⟩|⟨k,p1,p2,p3,p4,p5⟩
    ·exact absurd (by rw[←e];rfl) (q i hi0 hlt)
    ·have:k=i:=by
      rcases Nat.lt_trichotomy k i with q|q|q
      ·exact absurd p4 (hx k p1 q)
      ·exact q
      ·exact absurd (by rw[←e];rfl) (p5 i hi0 q)
     rw[p3,this]
   rw[e]at ka eb
   rw[hk]
   simp -implicitDefEqProofs[jJ,-qA,-qB,hlt]
   (first|refine Ac ka ?_|refine Ae ka ?_)
   simp -implicitDefEqProofs[jJ,-qA,-qB,eb]
  ·have hne:Bp i≠B s:=fun q=>e (by rw[q];rfl)
   generalize Ch (Bp i)=W at*;simp -implicitDefEqProofs[jJ,-qA,-qB,hlt]
   (first|refine Ac ka ?_|refine Ae ka ?_)
   simp -implicitDefEqProofs[jJ,-qA,-qB,eb];exact⟨by omega,⟨by omega,fun j j1 j2=>by
    by_cases q:j=i
    ·rw[q];exact hne
    ·exact hx j j1 (by omega)⟩,by omega⟩
 ·have hk:ruleR (B s)=0:=by
   rcases hp with⟨q,_⟩|⟨k,p1,p2,p3,p4,p5⟩
   ·exact q
   ·exact absurd p4 (hx k p1 (by omega))
  rw[hk]
  simp -implicitDefEqProofs[jJ,-qA,-qB,hlt]
end Go.Va
