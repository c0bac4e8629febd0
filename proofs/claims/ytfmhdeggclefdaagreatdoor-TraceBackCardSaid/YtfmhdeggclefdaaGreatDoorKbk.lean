/- a part of the proof -/
import Derived.Test.YtfmhdeggclefdaaGreatDoorKbj
import Derived.Test.YtfmhdeggclefdaaGreatDoorKax
import Derived.Lib.Split
import Derived.Test.YtfmhdeggclefdaaGreatDoorKba
set_option linter.all false
set_option maxHeartbeats 4000000
set_option maxRecDepth 10000
namespace Go.Va
open Int renaming natCast_add → qA, natCast_mul → qB, natCast_emod → qC, natCast_ediv → qD, natCast_pow → qE
open List renaming reduceReplicate → qF
open Go.Proofs
def jez:List (List Nat):=(Ah [0,0,2,7,15,15,63,127])
@[simp]def jeK:List Seg:=[.any [] [] (Aq [[7],[9],[40]]),.one,.any [] [] (Aq [[42],[42]]),.one,.one]
theorem U7{a b:ByteArray}(h:a≠b):G6 .neq a b=some (vB true):=by
 show some (vB (!(a.toList==b.toList)))=_
 rw[beq_eq_false_iff_ne.2 fun e=>h (Qe e)]
 rfl
theorem UQ(a:ByteArray):G6 .neq a a=some (vB false):=by
 show some (vB (!(a.toList==a.toList)))=_
 rw[beq_self_eq_true]
 rfl
theorem jfX(l:List UInt8)(h:l.all KI=true):valB l<10^l.length:=by
 have: ∀i,i≤l.length→valB (l.take i)<10^i:=fun i=>by
  induction i with
  |zero=>intro _;simp[valB]
  |succ i ih=>
   intro hi;have h1:=ih (by omega)
   have h2:=jzy.1 h _ (AZ (show i<l.length by omega))
   unfold KI at h2;simp only[AR,decide_eq_true_eq]at h2;rw[jdt (by omega),Nat.pow_succ]
   omega
 have:=this l.length (AO _)
 rwa [BM]at this
theorem VX(l:List UInt8):(limbs (natR l).1).length≤300:=by
 have z:(limbs 0).length≤300:=by rw[Cm];exact Nat.zero_le _
 unfold natR;split
 ·exact z
 split
 ·exact z
 split
 ·exact z
 split
 ·rename_i h1 h2 h3 h4
  refine Ew _ _ (Nat.lt_of_lt_of_le (jfX l h4) (Nat.le_trans (Nat.pow_le_pow_right (by omega) (show l.length≤1000 by omega)) ?_))
  decide+kernel
 ·exact z
theorem jhE(s:ByteArray):CallsF Tryz.prog 334 [.c (.str s)] (.tup [.agg [.d (.bool (intR (B s)).1),.d (Ad (limbs (intR (B s)).2.1))],.c (.d (.int .i64 (intR (B s)).2.2))]):=by
 have hsz:(B s).length=s.size:=Hg s
 by_cases hn:(B s).head? =some 45
 ·have ht:B (s.extract 1 s.size)=(B s).tail:=by
   rw[Mq,←hsz,BM]
   cases B s<;>rfl
  have k:=Xn (s.extract 1 s.size);have hpos:0<s.size:=by
   rw[←hsz]
   cases hb:B s with
   |nil=>rw[hb]at hn;cases hn
   |cons=>simp
  have e:s≠{ data:= #[] }:=fun q=>by rw[q]at hpos;exact absurd hpos (by decide)
  have eb:=U7 e;have g0:s[0]'hpos=45:=by
   rw[SV s hpos]
   rw[List.head?_eq_getElem?,AD (by omega)]at hn
   exact Bi hn
  have hx:1+(s.size - 1)=s.size:=by omega
  unfold intR;simp only[hn,decide_true,if_true];rw[ht]at k;clear ht;generalize (B s).tail=l at*;obtain⟨n,e,hne⟩: ∃n e,natR l=(n,e):=⟨_,_,rfl⟩;rw[hne]at k ⊢;simp only at k ⊢;have km:=jev true n;have hl:= @SG n;have hp:= @limbs_pos_len n;by_cases he:e=0
  ·subst he;by_cases h0:n=0
   ·subst h0;refine cO Tryz.func334 rfl ?_;simp -implicitDefEqProofs[jJ,-qA,-qB,-qC,-qD,-qE,eb,g0,hpos,hx];refine⟨by omega,?_⟩
    (first|refine Ac k ?_|refine Ae k ?_)
    simp -implicitDefEqProofs[jJ,-qA,-qB,-qC,-qD,-qE,Cm];rfl
   ·have hd:decide (0<n)=true:=by simp;omega
    have hz: ¬(limbs n).length=0:=fun q=>h0 (hl.1 q)
    unfold AU sg at km;rw[hd]at km;refine cO Tryz.func334 rfl ?_;simp -implicitDefEqProofs[jJ,-qA,-qB,-qC,-qD,-qE,eb,g0,hpos,hx];refine⟨by omega,?_⟩
    (first|refine Ac k ?_|refine Ae k ?_)
    simp -implicitDefEqProofs[jJ,-qA,-qB,-qC,-qD,-qE,hz,h0]
    (first|refine Ac km ?_|refine Ae km ?_)
    simp -implicitDefEqProofs[jJ,-qA,-qB,-qC,-qD,-qE,h0]
  ·refine cO Tryz.func334 rfl ?_;simp -implicitDefEqProofs[jJ,-qA,-qB,-qC,-qD,-qE,eb,g0,hpos,hx];refine⟨by omega,?_⟩
   (first|refine Ac k ?_|refine Ae k ?_)
   simp -implicitDefEqProofs[jJ,-qA,-qB,-qC,-qD,-qE,he];rfl
 ·have k:=Xn s;unfold intR;simp only[hn,decide_false,if_false,Bool.false_eq_true,false_and];generalize hq:natR (B s)=q at*;obtain⟨n,e⟩:=q;simp only at k ⊢;have km:=jev false n;unfold AU sg at km;by_cases h0:s={ data:= #[] }
  ·subst h0;have eb:=UQ { data:= #[] };have:e=10:=by
    have:=congrArg (·.2) hq
    exact this.symm
   subst this;refine cO Tryz.func334 rfl ?_;simp -implicitDefEqProofs[jJ,-qA,-qB,-qC,-qD,-qE,eb]
   (first|refine Ac k ?_|refine Ae k ?_)
   simp -implicitDefEqProofs[jJ,-qA,-qB,-qC,-qD,-qE];rfl
  ·have eb:=U7 h0;have hpos:0<s.size:=by
    rw[←hsz]
    cases hb:B s with
    |nil=>exact absurd (by rw[←O9 s,hb];rfl) h0
    |cons=>simp
   have g0: ¬(s[0]'hpos).toNat=45:=by
    rw[SV s hpos]
    rw[List.head?_eq_getElem?,AD (by omega)]at hn
    exact fun q=>hn (congrArg some (UInt8.toNat_inj.1 q))
   by_cases he:e=0
   ·subst he;refine cO Tryz.func334 rfl ?_;simp -implicitDefEqProofs[jJ,-qA,-qB,-qC,-qD,-qE,eb,g0,hpos]
    (first|refine Ac k ?_|refine Ae k ?_)
    simp -implicitDefEqProofs[jJ,-qA,-qB,-qC,-qD,-qE]
    (first|refine Ac km ?_|refine Ae km ?_)
    simp -implicitDefEqProofs[jJ,-qA,-qB,-qC,-qD,-qE]
   ·refine cO Tryz.func334 rfl ?_;simp -implicitDefEqProofs[jJ,-qA,-qB,-qC,-qD,-qE,eb,g0,hpos]
    (first|refine Ac k ?_|refine Ae k ?_)
    simp -implicitDefEqProofs[jJ,-qA,-qB,-qC,-qD,-qE,he];rfl
theorem je0(l:List UInt8):(limbs (intR l).2.1).length≤300:=by
 have z:(limbs 0).length≤300:=by rw[Cm];exact Nat.zero_le _
 have h:=VX (if decide (l.head? =some 45)=true then l.tail else l);unfold intR;simp only;generalize natR (if decide (l.head? =some 45)=true then l.tail else l)=d at*;split
 ·exact z
 split
 ·exact z
 ·exact h
theorem jhT(na nb:Bool)(a d:Nat)(ha:(limbs a).length≤900)(hd:(limbs d).length≤900):
  CallsF Tryz.prog 336 [.agg [.bool na,Ad (limbs a)],.agg [.bool nb,Ad (limbs d)]]
   (if d=0 then .tup [.agg [.d (.bool false),.d (Ad []),.d (Ad [])],.c (.d (.int .i64 3))]
   else .tup [.agg (RB (!decide (na=nb)) a d),.c (.d (.int .i64 0))]):=by
 have s1:=HS nb (limbs d) (Aw _) (by omega)
 rw[Az]at s1
 by_cases h0:d=0
 ·rw[if_pos h0]
  refine cO Tryz.func336 rfl ?_;simp -implicitDefEqProofs[jJ,-qA,-qB,-qC,-qD,-qE]
  (first|refine Ac s1 ?_|refine Ae s1 ?_)
  simp -implicitDefEqProofs[jJ,-qA,-qB,-qC,-qD,-qE,Zd,h0];rfl
 ·rw[if_neg h0]
  have r:=W8 (!decide (na=nb)) (limbs a) (limbs d) (Aw _) ha (Aw _) hd (by rw[Az];exact h0)
  rw[Az,Az]at r
  unfold RB at*;refine cO Tryz.func336 rfl ?_;simp -implicitDefEqProofs[jJ,-qA,-qB,-qC,-qD,-qE]
  (first|refine Ac s1 ?_|refine Ae s1 ?_)
  simp -implicitDefEqProofs[jJ,-qA,-qB,-qC,-qD,-qE,Zd,h0]
  (first|refine Ac r ?_|refine Ae r ?_)
  simp -implicitDefEqProofs[jJ,-qA,-qB,-qC,-qD,-qE]
theorem jfC: ∀l:List UInt8,LW l=((Lib.cut l [47]).1,if (Lib.cut l [47]).2.2=true then some (Lib.cut l [47]).2.1 else none)
 |[]=>rfl
 |c::l=>by
  have ih:=jfC l;unfold Lib.cut at*;rw[LW];by_cases h:c=47
  ·subst h;have:Lib.index (47::l) [47]=0:=Lib.index_first (i:=0) (Nat.zero_le _) (by simp[Lib.occAt]) fun j hj=>absurd hj (Nat.not_lt_zero _)
   rw[this]
   simp
  ·have hi:Lib.index (c::l) [47]=if Lib.index l [47]== -1 then -1 else Lib.index l [47]+1:=by
    have:=Lib.index_drop (s:=c::l) (sub:=[47]) (i:=1) (fun j hj=>by
     have:j=0:=by omega
     subst this;have e:((47:UInt8)==c)=false:=beq_eq_false_iff_ne.2 (Ne.symm h);simp[Lib.occAt,List.isPrefixOf,e]) (by simp)
    simpa using this
   have hg:=Lib.index_ge l [47];rw[if_neg h,ih,hi];by_cases hm:Lib.index l [47]= -1
   ·rw[hm];simp
   ·have h0:0≤Lib.index l [47]:=by omega
    obtain⟨n,hn⟩:=Int.eq_ofNat_of_zero_le h0
    rw[hn]
    have e1:((n:Int)== -1)=false:=by simp
    have e2:((n:Int)+1).toNat=n+1:=by omega
    have e3:(0:Int)≤n+1:=by omega
    rw[e1]
    have e4:(0:Int)≤n:=by omega
    simp only[Bool.false_eq_true,if_false,if_pos e3,if_pos e4,e2,Int.toNat_natCast,if_true];rw[Nat.add_right_comm];rfl
theorem jhj(s:ByteArray)(hs:s.size<4294967281):CallsF Tryz.prog 255 [.c (.str s)]
  (.tup [.agg [.d (.bool (M8 (B s)).1),.d (Ad (limbs (M8 (B s)).2.1)),.d (Ad (limbs (M8 (B s)).2.2.1))],.c (.d (.int .i64 (M8 (B s)).2.2.2))]):=by
 have kc:=UT s { data:= #[47] } hs;rw[show s.data.toList=B s from rfl,show({ data:= #[47] }:ByteArray).data.toList=[47] from rfl]at kc
 unfold M8;rw[jfC];obtain⟨p,q,b,hc⟩: ∃p q b,Lib.cut (B s) [47]=(p,q,b):=⟨_,_,_,rfl⟩;rw[hc]at kc ⊢;simp only[List.map_cons,List.map_nil]at kc ⊢;have ki:=jhE ⟨p.toArray⟩;have kn:=Xn ⟨q.toArray⟩;have hip:=je0 p;have hnq:=VX q;rw[show B ⟨p.toArray⟩=p from rfl]at ki
 rw[show B ⟨q.toArray⟩=q from rfl]at kn
 generalize (⟨p.toArray⟩:ByteArray)=P at*;generalize (⟨q.toArray⟩:ByteArray)=Q at*;have hr:Oj p (if b=true then some q else none)=if (intR p).2.2≠0 then (false,0,0,(intR p).2.2) else if b=true then (if (natR q).2≠0 then (false,0,0,(natR q).2) else if (natR q).1=0 then (false,0,0,3) else O7 (intR p).1 (intR p).2.1 (natR q).1) else O7 (intR p).1 (intR p).2.1 1:=by
  cases b<;>rfl
 rw[hr]
 unfold O7;clear hr;generalize intR p=ip at*;generalize natR q=nq at*;obtain⟨neg,n,e⟩:=ip;obtain⟨d,e2⟩:=nq;simp only at ki kn hip hnq ⊢;have ku:=Ir;have kr:=W8 neg (limbs n) [1] (Aw _) (by omega) (Ok.nil.cons (by omega)) (by decide) (by decide)
 rw[Az,show val [1]=1 from rfl]at kr
 have kw:=jmo (limbs d);have km:=jhT neg false n d (by omega) (by omega)
 unfold RB at*;by_cases he:e=0
 ·subst he;cases b with
  |false=>
   refine cO Tryz.func255 rfl ?_;simp -implicitDefEqProofs[jJ,-qA,-qB,-qC,-qD,-qE]
   (first|refine Ac kc ?_|refine Ae kc ?_)
   simp -implicitDefEqProofs[jJ,-qA,-qB,-qC,-qD,-qE]
   (first|refine Ac ki ?_|refine Ae ki ?_)
   simp -implicitDefEqProofs[jJ,-qA,-qB,-qC,-qD,-qE];refine AA (Ah [0,0,3,7,15]) [.any [] [] (Aq [[7],[]]),.one,.one,.one] (by rfl) ?_
   simp -implicitDefEqProofs[jJ,-qA,-qB,-qC,-qD,-qE]
   (first|refine Ac ku ?_|refine Ae ku ?_)
   simp -implicitDefEqProofs[jJ,-qA,-qB,-qC,-qD,-qE]
   (first|refine Ac kr ?_|refine Ae kr ?_)
   simp -implicitDefEqProofs[jJ,-qA,-qB,-qC,-qD,-qE]
  |true=>
   by_cases he2:e2=0
   ·subst he2;by_cases d0:d=0
    ·rw[if_pos d0]at km
     refine cO Tryz.func255 rfl ?_;simp -implicitDefEqProofs[jJ,-qA,-qB,-qC,-qD,-qE]
     (first|refine Ac kc ?_|refine Ae kc ?_)
     simp -implicitDefEqProofs[jJ,-qA,-qB,-qC,-qD,-qE]
     (first|refine Ac ki ?_|refine Ae ki ?_)
     simp -implicitDefEqProofs[jJ,-qA,-qB,-qC,-qD,-qE]
     (first|refine Ac kn ?_|refine Ae kn ?_)
     simp -implicitDefEqProofs[jJ,-qA,-qB,-qC,-qD,-qE];refine AA jez jeK (by rfl) ?_
     simp -implicitDefEqProofs[jJ,-qA,-qB,-qC,-qD,-qE]
     (first|refine Ac kw ?_|refine Ae kw ?_)
     simp -implicitDefEqProofs[jJ,-qA,-qB,-qC,-qD,-qE]
     (first|refine Ac km ?_|refine Ae km ?_)
     simp -implicitDefEqProofs[jJ,-qA,-qB,-qC,-qD,-qE,d0];rfl
    ·rw[if_neg d0]at km
     have hs:(!decide (neg=false))=neg:=by cases neg<;>rfl
     rw[hs]at km
     refine cO Tryz.func255 rfl ?_;simp -implicitDefEqProofs[jJ,-qA,-qB,-qC,-qD,-qE]
     (first|refine Ac kc ?_|refine Ae kc ?_)
     simp -implicitDefEqProofs[jJ,-qA,-qB,-qC,-qD,-qE]
     (first|refine Ac ki ?_|refine Ae ki ?_)
     simp -implicitDefEqProofs[jJ,-qA,-qB,-qC,-qD,-qE]
     (first|refine Ac kn ?_|refine Ae kn ?_)
     simp -implicitDefEqProofs[jJ,-qA,-qB,-qC,-qD,-qE];refine AA jez jeK (by rfl) ?_
     simp -implicitDefEqProofs[jJ,-qA,-qB,-qC,-qD,-qE]
     (first|refine Ac kw ?_|refine Ae kw ?_)
     simp -implicitDefEqProofs[jJ,-qA,-qB,-qC,-qD,-qE]
     (first|refine Ac km ?_|refine Ae km ?_)
     simp -implicitDefEqProofs[jJ,-qA,-qB,-qC,-qD,-qE,d0]
   ·refine cO Tryz.func255 rfl ?_;simp -implicitDefEqProofs[jJ,-qA,-qB,-qC,-qD,-qE]
    (first|refine Ac kc ?_|refine Ae kc ?_)
    simp -implicitDefEqProofs[jJ,-qA,-qB,-qC,-qD,-qE]
    (first|refine Ac ki ?_|refine Ae ki ?_)
    simp -implicitDefEqProofs[jJ,-qA,-qB,-qC,-qD,-qE]
    (first|refine Ac kn ?_|refine Ae kn ?_)
    simp -implicitDefEqProofs[jJ,-qA,-qB,-qC,-qD,-qE,he2];rfl
 ·refine cO Tryz.func255 rfl ?_;simp -implicitDefEqProofs[jJ,-qA,-qB,-qC,-qD,-qE]
  (first|refine Ac kc ?_|refine Ae kc ?_)
  simp -implicitDefEqProofs[jJ,-qA,-qB,-qC,-qD,-qE]
  (first|refine Ac ki ?_|refine Ae ki ?_)
  simp -implicitDefEqProofs[jJ,-qA,-qB,-qC,-qD,-qE,he];rfl
theorem jhL(ns:List ByteArray)(s:Ps)(h:s.l.length=s.p.length)(hs: ∀w∈s.l,w.size<4294967281):
  PC 178 [] ns s s.num.2 (.u (.agg [.d (.bool s.num.1.1),.d (Ad (limbs s.num.1.2.1)),.d (Ad (limbs s.num.1.2.2))])):=by
 have k1:=X4 ns s;have k3:=UA ns s;cases hw:s.word with
 |none=>
  have hnum:s.num=((false,0,0),s.fail 5):=by unfold Ps.num;rw[hw]
  rw[hnum]
  unfold PC;refine Z3 [] (T:=tb) Ak mixed Tryz.func178 rfl (by decide) (Al rfl) (Al rfl) rfl rfl (H9 _ _) (H9 _ _) ?_;unfold St.initG St.initH
  unfold AQ L7 Ps.wordS at*;rw[hw]at k1;simp only[Cm];simp -implicitDefEqProofs[jJ,-qA,-qB,-qC,-qD,-qE];refine .inr (Dc k1 rfl (fun x r e=>by cases e) rfl ?_)
  simp -implicitDefEqProofs[jJ,-qA,-qB,-qC,-qD,-qE,AQ,St.backH,St.on,Fs,GM,C.same,V.on,U.on,C.on];exact TZ (.inl rfl) rfl rfl rfl rfl rfl
 |some w=>
  obtain⟨h0,l,hl⟩:=Ps.word_some hw
  have kr:=jhj w (hs w (by rw[hl];simp))
  obtain⟨neg,m,d,e,hq⟩: ∃neg m d e,M8 (B w)=(neg,m,d,e):=⟨_,_,_,_,rfl⟩
  rw[hq]at kr
  simp only at kr;have k2:=P3 ns s e;by_cases he:e=0
  ·subst he;have hnum:s.num=((neg,m,d),s.pass):=by unfold Ps.num;rw[hw];simp only[hq,if_true]
   rw[hnum]
   unfold PC;refine Z3 [] (T:=tb) Ak mixed Tryz.func178 rfl (by decide) (Al rfl) (Al rfl) rfl rfl (H9 _ _) (H9 _ _) ?_;unfold St.initG St.initH
   unfold AQ L7 Ps.wordS at*;rw[hw]at k1;simp -implicitDefEqProofs[jJ,-qA,-qB,-qC,-qD,-qE];refine .inr (Dc k1 rfl (fun x r e=>by cases e) rfl ?_)
   simp -implicitDefEqProofs[jJ,-qA,-qB,-qC,-qD,-qE,AQ,St.backH,St.on,Fs,GM,C.same,V.on,U.on,C.on]
   (first|refine Ac kr ?_|refine Ae kr ?_)
   simp -implicitDefEqProofs[jJ,-qA,-qB,-qC,-qD,-qE];refine .inr (Dc (k3 (by rw[hl];simp) (fun e=>by rw[e,hl]at h;cases h)) rfl (fun x r e=>by cases e) rfl ?_)
   simp -implicitDefEqProofs[jJ,-qA,-qB,-qC,-qD,-qE,AQ,St.backH,St.on,Fs,GM,C.same,V.on,U.on,C.on];exact TZ (.inl rfl) rfl rfl rfl rfl rfl
  ·have hnum:s.num=((false,0,0),s.fail e):=by unfold Ps.num;rw[hw];simp only[hq,if_neg he]
   rw[hnum]
   unfold PC;refine Z3 [] (T:=tb) Ak mixed Tryz.func178 rfl (by decide) (Al rfl) (Al rfl) rfl rfl (H9 _ _) (H9 _ _) ?_;unfold St.initG St.initH
   unfold AQ L7 Ps.wordS at*;rw[hw]at k1;simp only[Cm];simp -implicitDefEqProofs[jJ,-qA,-qB,-qC,-qD,-qE];refine .inr (Dc k1 rfl (fun x r e=>by cases e) rfl ?_)
   simp -implicitDefEqProofs[jJ,-qA,-qB,-qC,-qD,-qE,AQ,St.backH,St.on,Fs,GM,C.same,V.on,U.on,C.on]
   (first|refine Ac kr ?_|refine Ae kr ?_)
   simp -implicitDefEqProofs[jJ,-qA,-qB,-qC,-qD,-qE,he];refine .inr (Dc k2 rfl (fun x r e=>by cases e) rfl ?_)
   simp -implicitDefEqProofs[jJ,-qA,-qB,-qC,-qD,-qE,AQ,St.backH,St.on,Fs,GM,C.same,V.on,U.on,C.on];exact TZ (.inl rfl) rfl rfl rfl rfl rfl
def OS:ByteArray:={ data:= #[44,32] }
def pcsS(s:ByteArray):List ByteArray:=Lib.splitB OS 0 (Lib.countB s OS) s
theorem Wn(s:ByteArray):(pcsS s).map B=Pq (B s):=Lib.splitB_data OS 0 (Lib.countB s OS) s
theorem jdq(s:ByteArray):(pcsS s).length=Lib.countB s OS+1:=Lib.splitB_all OS (by decide) 0 _ s rfl
theorem VZ(s:ByteArray):(pcsS s).length≤s.size+1:=by
 have:=Lib.countB_le OS (by decide) s.size s (AO _)
 rw[jdq]
 omega
theorem Wj(s:ByteArray)(hs:s.size≤100000):CallsF Tryz.prog 22 [.c (.str s),.c (.str { data:= #[44,32] })] (.u (.c (.d (.slice (pcsS s).length (strsD (pcsS s)))))):=by
 have hl:=VZ s;rw[jdq]at hl ⊢;exact Ze s OS (by omega) (by decide) (Lib.splitB_all OS (by decide) 0 _ s rfl) (Nat.le_trans (show _≤100001 by omega) (by decide))
theorem jmE(u:Nat): ∀acc:Nat,Lib.decFrom acc (Lib.decDigits u)=some (acc*10^(Lib.decDigits u).length+u):=by
 induction u using Nat.strongRecOn with
 |ind u ih=>
  intro acc;have app: ∀(l:List UInt8) (a b:Nat) (c:UInt8),Lib.decFrom a l=some b→Lib.decFrom a (l++[c])=Lib.decFrom b [c]:=fun l=>by
   induction l with
   |nil=>intro a b c h;cases h;rfl
   |cons x r ihr=>
    intro a b c h;rw[List.cons_append,Lib.decFrom];rw[Lib.decFrom]at h;cases hx:Lib.digitVal x with
    |none=>rw[hx]at h;cases h
    |some d=>rw[hx]at h;exact ihr _ b c h
  have one: ∀r,r<10→ ∀a:Nat,Lib.decFrom a [UInt8.ofNat (48+r)]=some (a*10+r):=fun r hr a=>by
   have hd:(UInt8.ofNat (48+r)).toNat=48+r:=by
    have:r=0∨r=1∨r=2∨r=3∨r=4∨r=5∨r=6∨r=7∨r=8∨r=9:=by omega
    rcases this with rfl|rfl|rfl|rfl|rfl|rfl|rfl|rfl|rfl|rfl<;>rfl
   simp only[Lib.decFrom,Lib.digitVal];rw[hd,if_pos (by omega)]
   simp
  rw[Lib.decDigits]
  split
  ·rename_i h
   rw[one u h acc]
   simp
  ·rename_i h
   have h1:=ih (u/10) (by omega) acc
   rw[app _ _ _ _ h1,one (u%10) (by omega),List.length_append,List.length_singleton,Nat.pow_succ]
   congr 1
   rw[Nat.add_mul,Nat.mul_assoc]
   omega
theorem jhX(u:Nat):Lib.atoi (Lib.decDigits u)=some (u:Int):=by
 have h:=jmE u 0;have hh:=ZJ u;have hne:=RI u;have hm:=fun c=> @UV u c
 cases hd:Lib.decDigits u with
 |nil=>exact absurd hd hne
 |cons b r=>
  rw[hd]at h hh hm
  have hb:=hm b (by simp)
  have e: ∀k:UInt8,KI k=false→(b==k)=false:=fun k hk=>beq_eq_false_iff_ne.2 fun q=>by rw[q,hk]at hb;cases hb
  simp only[Lib.atoi];rw[e 45 (by decide),e 43 (by decide)]
  simp only[Bool.false_eq_true,if_false];unfold Lib.decNat;rw[h];simp
def Qf(s:ByteArray):Prop:= ∃(n:Int) (e:D),CallsF Tryz.prog 99 [.c (.str s)] (.tup [.c (.d (.int .i64 n)),.c (.d e)])∧ -9223372036854775808≤n∧n≤9223372036854775807∧(e= .lit .nilIface∨e= .nn)
def LQ(m:Nat)(x:List UInt8):Option Int:=(Pn m x).map fun(n:Nat)=>(n:Int)
theorem R6{α β:Type}(f:α→Option β): ∀(a b:List α),(a++b).mapM f=(a.mapM f).bind fun x=>(b.mapM f).map fun y=>x++y
 |[],b=>by simp
 |c::a,b=>by
  rw[List.cons_append,List.mapM_cons,List.mapM_cons,R6 f a b]
  cases f c<;>cases a.mapM f<;>cases b.mapM f<;>rfl
theorem jmU{m:Nat}{l:List ByteArray}{i:Nat}(h:i<l.length){L:List Int}(hL:((l.take i).map B).mapM (LQ m)=some L):((l.take (i+1)).map B).mapM (LQ m)=(LQ m (B l[i])).map fun n=>L++[n]:=by
 rw[Cr h,List.map_append,R6,hL]
 simp only[List.map_cons,List.map_nil,List.mapM_cons,List.mapM_nil,Option.bind_some];cases LQ m (B l[i])<;>rfl
theorem ji8{m:Nat}{l:List ByteArray}{i:Nat}(h:((l.take i).map B).mapM (LQ m)=none):(l.map B).mapM (LQ m)=none:=by
 rw[←List.take_append_drop i l,List.map_append,R6,h]
 rfl
theorem jde: ∀(l:List (List UInt8)),∀x∈l,x.length≤(Bc l).length
 |[w],x,hx=>by rw[OR,List.mem_singleton.1 hx];exact AO _
 |y::z::r,x,hx=>by
  rw[Na,List.length_append,List.length_cons,List.length_cons]
  rcases jzn.1 hx with rfl|hx
  ·omega
  ·have:=jde (z::r) x hx
   omega
theorem jiy(s:ByteArray): ∀x∈pcsS s,x.size≤s.size:=fun x hx=>by
 have:=jde (Pq (B s)) (B x) (by rw[←Wn];exact jzk.2 ⟨x,hx,rfl⟩)
 rw[XV]at this
 exact this
theorem jkT(hA: ∀x:ByteArray,x.size≤100000→Qf x)(s:ByteArray)(hs:s.size≤100000)(m:Nat)(hm:m≤100000):CallsF Tryz.prog 55 [.c (.str s),.c (.int .i64 m)]
  (.tup [.c (.d (AT ((Pw m (B s)).getD []))),.c (.d (.bool (Pw m (B s)).isSome))]):=by
 have kp:=Wj s hs;have hl:=VZ s;have hB:=Wn s;have hf:Pw m (B s)=((pcsS s).map B).mapM (LQ m):=by rw[hB];rfl
 rw[hf]
 have hsz: ∀x∈pcsS s,x.size≤100000:=fun x hx=>Nat.le_trans (jiy s x hx) hs
 clear hB hf;generalize pcsS s=l at*;obtain⟨F,hF⟩: ∃F,F=(l.map B).mapM (LQ m):=⟨_,rfl⟩;rw[←hF];refine cO Tryz.func55 rfl ?_;simp -implicitDefEqProofs[jJ,-qA,-qB,-qC,-qD,-qE]
 (first|refine Ac kp ?_|refine Ae kp ?_)
 simp -implicitDefEqProofs[jJ,-qA,-qB,-qC,-qD,-qE];refine CE [(6,43)] (fun x:Nat×List Int=>⟨[(14,vI .i64 x.1),(13,vI .i64 l.length),(12,vC (.d (.slice l.length (strsD l)))),(6,vC (.sl 6 0 x.1)),(1,vI .i64 m)],[(6,.row 1 (x.2.map i64) true)]⟩)
  (fun x=>x.1≤l.length∧x.2.length=x.1∧((l.take x.1).map B).mapM (LQ m)=some x.2) (fun x=>l.length - x.1) (0,[]) (by simp[AW,lk,St.le,vI,vC]) ⟨by omega,rfl,rfl⟩ ?_
 rintro⟨i,L⟩ ⟨h1,h2,h3⟩
 simp only at h1 h2 h3;by_cases hi:i<l.length
 ·have g0:l[i]? =some l[i]:=AD hi
  have hx:=hsz _ (AZ hi);have hsl:(strsD l)[i]'(by rw[HR];exact hi)= .str l[i]:=by simp[strsD]
  have hnx:=jmU hi h3;cases hn:Pn m (B l[i])with
  |some n=>
   obtain⟨n1,n2⟩:=numR_some.1 hn
   have hq:LQ m (B l[i])=some (n:Int):=by unfold LQ;rw[hn];rfl
   rw[hq]at hnx
   have hlen:(Lib.decDigits n).length≤5+1:=KT 5 n (by omega)
   have ka:=TD l[i] n (by rw[←Hg,n2];omega) (by show Lib.atoi (B l[i])=_;rw[n2];exact jhX n)
   have ki:=On (n:=n) ⟨by omega,by omega⟩
   rw[QT (by omega),Int.toNat_natCast,←n2,O9]at ki
   simp only[List.map_cons,List.map_nil]at ka;have eb:=UQ l[i];have hlt: ¬(m:Nat)≤n:=by omega
   simp -implicitDefEqProofs[jJ,-qA,-qB,-qC,-qD,-qE,hi,g0,hsl]
   (first|refine Ac ka ?_|refine Ae ka ?_)
   simp -implicitDefEqProofs[jJ,-qA,-qB,-qC,-qD,-qE]
   (first|refine Ac ki ?_|refine Ae ki ?_)
   simp -implicitDefEqProofs[jJ,-qA,-qB,-qC,-qD,-qE,eb,hlt];exact⟨h2,⟨by omega,by omega⟩,by omega,i+1,L++[(n:Int)],⟨rfl,by rw[List.map_append];rfl⟩,⟨by omega,by rw[List.length_append,h2];rfl,by rw[←List.map_take];exact hnx⟩,by omega⟩
  |none=>
   have hq:LQ m (B l[i])=none:=by unfold LQ;rw[hn];rfl
   rw[hq]at hnx
   have hF0:F=none:=by rw[hF];exact ji8 hnx
   subst hF0;obtain⟨n,e,ka,b1,b2,he⟩:=hA _ hx;rcases he with rfl|rfl
   ·have ki:=On (n:=n) ⟨b1,by omega⟩
    rcases MK (Ch (A3 n)) l[i]with⟨q,_⟩|⟨q,_⟩
    ·have eb:=UQ l[i];rw[q]at ki;by_cases hneg:n<0
     ·simp -implicitDefEqProofs[jJ,-qA,-qB,-qC,-qD,-qE,hi,g0,hsl]
      (first|refine Ac ka ?_|refine Ae ka ?_)
      simp -implicitDefEqProofs[jJ,-qA,-qB,-qC,-qD,-qE]
      (first|refine Ac ki ?_|refine Ae ki ?_)
      simp -implicitDefEqProofs[jJ,-qA,-qB,-qC,-qD,-qE,eb,hneg];rfl
     ·have hge:(m:Int)≤n:=by
       rcases Int.lt_or_le n m with h|h
       ·have:=(numR_some (m:=m) (n:=n.toNat) (x:=B l[i])).2 ⟨by omega,by rw[←q];show A3 n=_;exact QT (by omega)⟩
        rw[hn]at this
        cases this
       ·exact h
      simp -implicitDefEqProofs[jJ,-qA,-qB,-qC,-qD,-qE,hi,g0,hsl]
      (first|refine Ac ka ?_|refine Ae ka ?_)
      simp -implicitDefEqProofs[jJ,-qA,-qB,-qC,-qD,-qE]
      (first|refine Ac ki ?_|refine Ae ki ?_)
      simp -implicitDefEqProofs[jJ,-qA,-qB,-qC,-qD,-qE,eb,hneg,hge];rfl
    ·have eb:=U7 q;simp -implicitDefEqProofs[jJ,-qA,-qB,-qC,-qD,-qE,hi,g0,hsl]
     (first|refine Ac ka ?_|refine Ae ka ?_)
     simp -implicitDefEqProofs[jJ,-qA,-qB,-qC,-qD,-qE]
     (first|refine Ac ki ?_|refine Ae ki ?_)
     simp -implicitDefEqProofs[jJ,-qA,-qB,-qC,-qD,-qE,eb];rfl
   ·simp -implicitDefEqProofs[jJ,-qA,-qB,-qC,-qD,-qE,hi,g0,hsl]
    (first|refine Ac ka ?_|refine Ae ka ?_)
    simp -implicitDefEqProofs[jJ,-qA,-qB,-qC,-qD,-qE];rfl
 ·have hi2:i=l.length:=by omega
  subst hi2;rw[BM,←hF]at h3;subst h3;simp -implicitDefEqProofs[jJ,-qA,-qB,-qC,-qD,-qE,hi];exact⟨by omega,by rw[Ba (by simp;omega),←h2];rfl⟩
end Go.Va
