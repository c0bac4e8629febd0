/- a part of the proof -/
import Derived.Test.YtljdeoefpialhaaGreatDoorHbe
import Derived.Test.YtljdeoefpialhaaGreatDoorHav
import Derived.Test.YtljdeoefpialhaaGreatDoorHap
set_option linter.all false
set_option maxHeartbeats 4000000
set_option maxRecDepth 10000
namespace Go.Va
open Int renaming natCast_add → qA, natCast_mul → qB, natCast_emod → qC, natCast_ediv → qD, natCast_pow → qE
open List renaming reduceReplicate → qF
open Go.Proofs
theorem jei(a b c d e f g h:Int)(h1:A6 (g,h) (a,b)<0)(h2:A6 (e,f) (c,d)<0):
  CallsF Tryz.prog 105 [.agg [.int .i64 a,.int .i64 b],.agg [.int .i64 c,.int .i64 d],.agg [.int .i64 e,.int .i64 f],.agg [.int .i64 g,.int .i64 h]] (Dn (a,b) (c,d) (e,f) (g,h)).res:=by
 have b1:=Cc g h a b;have b2:=Cc e f c d;have s1:srt2 (a,b) (g,h)=((g,h),(a,b)):=by unfold srt2;rw[if_pos h1]
 have s2:srt2 (c,d) (e,f)=((e,f),(c,d)):=by unfold srt2;rw[if_pos h2]
 have b3:=Cc e f g h;have b4:=Cc c d a b;have r1:=FU e f g h a b c d;have r2:=FU g h e f c d a b;unfold Dn;rw[s1,s2];simp only[Kp];clear s1 s2;refine cO Tryz.func105 rfl ?_;by_cases h3:A6 (e,f) (g,h)<0
 ·rw[if_pos (.inl h3)]
  simp -implicitDefEqProofs[jJ,-qA,-qB];refine Ac b1 ?_;simp -implicitDefEqProofs[jJ,-qA,-qB,h1];refine Ac b2 ?_;simp -implicitDefEqProofs[jJ,-qA,-qB,h2];refine Ac b3 ?_;simp -implicitDefEqProofs[jJ,-qA,-qB,h3];refine Ac r1 ?_;simp -implicitDefEqProofs[jJ,-qA,-qB,Fct.res]
 ·by_cases h4:e=g∧f=h
  ·obtain⟨h4,h5⟩:=h4
   have hB:(decide (g=e)&&decide (h=f))=true:=by simp[h4,h5]
   by_cases h6:A6 (c,d) (a,b)<0
   ·rw[if_pos (.inr ⟨by rw[h4,h5],h6⟩)]
    simp -implicitDefEqProofs[jJ,-qA,-qB];refine Ac b1 ?_;simp -implicitDefEqProofs[jJ,-qA,-qB,h1];refine Ac b2 ?_;simp -implicitDefEqProofs[jJ,-qA,-qB,h2];refine Ac b3 ?_;simp -implicitDefEqProofs[jJ,-qA,-qB,h3,hB];refine Ac b4 ?_;simp -implicitDefEqProofs[jJ,-qA,-qB,h6];refine Ac r1 ?_;simp -implicitDefEqProofs[jJ,-qA,-qB,Fct.res]
   ·rw[if_neg (fun q=>q.elim h3 fun q=>h6 q.2)]
    simp -implicitDefEqProofs[jJ,-qA,-qB];refine Ac b1 ?_;simp -implicitDefEqProofs[jJ,-qA,-qB,h1];refine Ac b2 ?_;simp -implicitDefEqProofs[jJ,-qA,-qB,h2];refine Ac b3 ?_;simp -implicitDefEqProofs[jJ,-qA,-qB,h3,hB];refine Ac b4 ?_;simp -implicitDefEqProofs[jJ,-qA,-qB,h6];refine Ac r2 ?_;simp -implicitDefEqProofs[jJ,-qA,-qB,Fct.res]
  ·have h5:(decide (g=e)&&decide (h=f))=false:=by
    simp only[Bool.and_eq_false_iff,decide_eq_false_iff_not];by_cases q:g=e
    ·exact .inr fun q2=>h4 ⟨q.symm,q2.symm⟩
    ·exact .inl q
   rw[if_neg (fun q=>q.elim h3 fun q=>h4 (by simpa using q.1))]
   simp -implicitDefEqProofs[jJ,-qA,-qB];refine Ac b1 ?_;simp -implicitDefEqProofs[jJ,-qA,-qB,h1];refine Ac b2 ?_;simp -implicitDefEqProofs[jJ,-qA,-qB,h2];refine Ac b3 ?_;simp -implicitDefEqProofs[jJ,-qA,-qB,h3,h5];refine Ac r2 ?_;simp -implicitDefEqProofs[jJ,-qA,-qB,Fct.res]
theorem jbS(a b c d e f g h:Int)(h1:A6 (g,h) (a,b)<0)(h2: ¬A6 (e,f) (c,d)<0):
  CallsF Tryz.prog 105 [.agg [.int .i64 a,.int .i64 b],.agg [.int .i64 c,.int .i64 d],.agg [.int .i64 e,.int .i64 f],.agg [.int .i64 g,.int .i64 h]] (Dn (a,b) (c,d) (e,f) (g,h)).res:=by
 have b1:=Cc g h a b;have b2:=Cc e f c d;have s1:srt2 (a,b) (g,h)=((g,h),(a,b)):=by unfold srt2;rw[if_pos h1]
 have s2:srt2 (c,d) (e,f)=((c,d),(e,f)):=by unfold srt2;rw[if_neg h2]
 have b3:=Cc c d g h;have b4:=Cc e f a b;have r1:=FU c d g h a b e f;have r2:=FU g h c d e f a b;unfold Dn;rw[s1,s2];simp only[Kp];clear s1 s2;refine cO Tryz.func105 rfl ?_;by_cases h3:A6 (c,d) (g,h)<0
 ·rw[if_pos (.inl h3)]
  simp -implicitDefEqProofs[jJ,-qA,-qB];refine Ac b1 ?_;simp -implicitDefEqProofs[jJ,-qA,-qB,h1];refine Ac b2 ?_;simp -implicitDefEqProofs[jJ,-qA,-qB,h2];refine Ac b3 ?_;simp -implicitDefEqProofs[jJ,-qA,-qB,h3];refine Ac r1 ?_;simp -implicitDefEqProofs[jJ,-qA,-qB,Fct.res]
 ·by_cases h4:c=g∧d=h
  ·obtain⟨h4,h5⟩:=h4
   have hB:(decide (g=c)&&decide (h=d))=true:=by simp[h4,h5]
   by_cases h6:A6 (e,f) (a,b)<0
   ·rw[if_pos (.inr ⟨by rw[h4,h5],h6⟩)]
    simp -implicitDefEqProofs[jJ,-qA,-qB];refine Ac b1 ?_;simp -implicitDefEqProofs[jJ,-qA,-qB,h1];refine Ac b2 ?_;simp -implicitDefEqProofs[jJ,-qA,-qB,h2];refine Ac b3 ?_;simp -implicitDefEqProofs[jJ,-qA,-qB,h3,hB];refine Ac b4 ?_;simp -implicitDefEqProofs[jJ,-qA,-qB,h6];refine Ac r1 ?_;simp -implicitDefEqProofs[jJ,-qA,-qB,Fct.res]
   ·rw[if_neg (fun q=>q.elim h3 fun q=>h6 q.2)]
    simp -implicitDefEqProofs[jJ,-qA,-qB];refine Ac b1 ?_;simp -implicitDefEqProofs[jJ,-qA,-qB,h1];refine Ac b2 ?_;simp -implicitDefEqProofs[jJ,-qA,-qB,h2];refine Ac b3 ?_;simp -implicitDefEqProofs[jJ,-qA,-qB,h3,hB];refine Ac b4 ?_;simp -implicitDefEqProofs[jJ,-qA,-qB,h6];refine Ac r2 ?_;simp -implicitDefEqProofs[jJ,-qA,-qB,Fct.res]
  ·have h5:(decide (g=c)&&decide (h=d))=false:=by
    simp only[Bool.and_eq_false_iff,decide_eq_false_iff_not];by_cases q:g=c
    ·exact .inr fun q2=>h4 ⟨q.symm,q2.symm⟩
    ·exact .inl q
   rw[if_neg (fun q=>q.elim h3 fun q=>h4 (by simpa using q.1))]
   simp -implicitDefEqProofs[jJ,-qA,-qB];refine Ac b1 ?_;simp -implicitDefEqProofs[jJ,-qA,-qB,h1];refine Ac b2 ?_;simp -implicitDefEqProofs[jJ,-qA,-qB,h2];refine Ac b3 ?_;simp -implicitDefEqProofs[jJ,-qA,-qB,h3,h5];refine Ac r2 ?_;simp -implicitDefEqProofs[jJ,-qA,-qB,Fct.res]
theorem jgr(a b c d e f g h:Int)(h1: ¬A6 (g,h) (a,b)<0)(h2:A6 (e,f) (c,d)<0):
  CallsF Tryz.prog 105 [.agg [.int .i64 a,.int .i64 b],.agg [.int .i64 c,.int .i64 d],.agg [.int .i64 e,.int .i64 f],.agg [.int .i64 g,.int .i64 h]] (Dn (a,b) (c,d) (e,f) (g,h)).res:=by
 have b1:=Cc g h a b;have b2:=Cc e f c d;have s1:srt2 (a,b) (g,h)=((a,b),(g,h)):=by unfold srt2;rw[if_neg h1]
 have s2:srt2 (c,d) (e,f)=((e,f),(c,d)):=by unfold srt2;rw[if_pos h2]
 have b3:=Cc e f a b;have b4:=Cc c d g h;have r1:=FU e f a b g h c d;have r2:=FU a b e f c d g h;unfold Dn;rw[s1,s2];simp only[Kp];clear s1 s2;refine cO Tryz.func105 rfl ?_;by_cases h3:A6 (e,f) (a,b)<0
 ·rw[if_pos (.inl h3)]
  simp -implicitDefEqProofs[jJ,-qA,-qB];refine Ac b1 ?_;simp -implicitDefEqProofs[jJ,-qA,-qB,h1];refine Ac b2 ?_;simp -implicitDefEqProofs[jJ,-qA,-qB,h2];refine Ac b3 ?_;simp -implicitDefEqProofs[jJ,-qA,-qB,h3];refine Ac r1 ?_;simp -implicitDefEqProofs[jJ,-qA,-qB,Fct.res]
 ·by_cases h4:e=a∧f=b
  ·obtain⟨h4,h5⟩:=h4
   have hB:(decide (a=e)&&decide (b=f))=true:=by simp[h4,h5]
   by_cases h6:A6 (c,d) (g,h)<0
   ·rw[if_pos (.inr ⟨by rw[h4,h5],h6⟩)]
    simp -implicitDefEqProofs[jJ,-qA,-qB];refine Ac b1 ?_;simp -implicitDefEqProofs[jJ,-qA,-qB,h1];refine Ac b2 ?_;simp -implicitDefEqProofs[jJ,-qA,-qB,h2];refine Ac b3 ?_;simp -implicitDefEqProofs[jJ,-qA,-qB,h3,hB];refine Ac b4 ?_;simp -implicitDefEqProofs[jJ,-qA,-qB,h6];refine Ac r1 ?_;simp -implicitDefEqProofs[jJ,-qA,-qB,Fct.res]
   ·rw[if_neg (fun q=>q.elim h3 fun q=>h6 q.2)]
    simp -implicitDefEqProofs[jJ,-qA,-qB];refine Ac b1 ?_;simp -implicitDefEqProofs[jJ,-qA,-qB,h1];refine Ac b2 ?_;simp -implicitDefEqProofs[jJ,-qA,-qB,h2];refine Ac b3 ?_;simp -implicitDefEqProofs[jJ,-qA,-qB,h3,hB];refine Ac b4 ?_;simp -implicitDefEqProofs[jJ,-qA,-qB,h6];refine Ac r2 ?_;simp -implicitDefEqProofs[jJ,-qA,-qB,Fct.res]
  ·have h5:(decide (a=e)&&decide (b=f))=false:=by
    simp only[Bool.and_eq_false_iff,decide_eq_false_iff_not];by_cases q:a=e
    ·exact .inr fun q2=>h4 ⟨q.symm,q2.symm⟩
    ·exact .inl q
   rw[if_neg (fun q=>q.elim h3 fun q=>h4 (by simpa using q.1))]
   simp -implicitDefEqProofs[jJ,-qA,-qB];refine Ac b1 ?_;simp -implicitDefEqProofs[jJ,-qA,-qB,h1];refine Ac b2 ?_;simp -implicitDefEqProofs[jJ,-qA,-qB,h2];refine Ac b3 ?_;simp -implicitDefEqProofs[jJ,-qA,-qB,h3,h5];refine Ac r2 ?_;simp -implicitDefEqProofs[jJ,-qA,-qB,Fct.res]
theorem jj6(a b c d e f g h:Int)(h1: ¬A6 (g,h) (a,b)<0)(h2: ¬A6 (e,f) (c,d)<0):
  CallsF Tryz.prog 105 [.agg [.int .i64 a,.int .i64 b],.agg [.int .i64 c,.int .i64 d],.agg [.int .i64 e,.int .i64 f],.agg [.int .i64 g,.int .i64 h]] (Dn (a,b) (c,d) (e,f) (g,h)).res:=by
 have b1:=Cc g h a b;have b2:=Cc e f c d;have s1:srt2 (a,b) (g,h)=((a,b),(g,h)):=by unfold srt2;rw[if_neg h1]
 have s2:srt2 (c,d) (e,f)=((c,d),(e,f)):=by unfold srt2;rw[if_neg h2]
 have b3:=Cc c d a b;have b4:=Cc e f g h;have r1:=FU c d a b g h e f;have r2:=FU a b c d e f g h;unfold Dn;rw[s1,s2];simp only[Kp];clear s1 s2;refine cO Tryz.func105 rfl ?_;by_cases h3:A6 (c,d) (a,b)<0
 ·rw[if_pos (.inl h3)]
  simp -implicitDefEqProofs[jJ,-qA,-qB];refine Ac b1 ?_;simp -implicitDefEqProofs[jJ,-qA,-qB,h1];refine Ac b2 ?_;simp -implicitDefEqProofs[jJ,-qA,-qB,h2];refine Ac b3 ?_;simp -implicitDefEqProofs[jJ,-qA,-qB,h3];refine Ac r1 ?_;simp -implicitDefEqProofs[jJ,-qA,-qB,Fct.res]
 ·by_cases h4:c=a∧d=b
  ·obtain⟨h4,h5⟩:=h4
   have hB:(decide (a=c)&&decide (b=d))=true:=by simp[h4,h5]
   by_cases h6:A6 (e,f) (g,h)<0
   ·rw[if_pos (.inr ⟨by rw[h4,h5],h6⟩)]
    simp -implicitDefEqProofs[jJ,-qA,-qB];refine Ac b1 ?_;simp -implicitDefEqProofs[jJ,-qA,-qB,h1];refine Ac b2 ?_;simp -implicitDefEqProofs[jJ,-qA,-qB,h2];refine Ac b3 ?_;simp -implicitDefEqProofs[jJ,-qA,-qB,h3,hB];refine Ac b4 ?_;simp -implicitDefEqProofs[jJ,-qA,-qB,h6];refine Ac r1 ?_;simp -implicitDefEqProofs[jJ,-qA,-qB,Fct.res]
   ·rw[if_neg (fun q=>q.elim h3 fun q=>h6 q.2)]
    simp -implicitDefEqProofs[jJ,-qA,-qB];refine Ac b1 ?_;simp -implicitDefEqProofs[jJ,-qA,-qB,h1];refine Ac b2 ?_;simp -implicitDefEqProofs[jJ,-qA,-qB,h2];refine Ac b3 ?_;simp -implicitDefEqProofs[jJ,-qA,-qB,h3,hB];refine Ac b4 ?_;simp -implicitDefEqProofs[jJ,-qA,-qB,h6];refine Ac r2 ?_;simp -implicitDefEqProofs[jJ,-qA,-qB,Fct.res]
  ·have h5:(decide (a=c)&&decide (b=d))=false:=by
    simp only[Bool.and_eq_false_iff,decide_eq_false_iff_not];by_cases q:a=c
    ·exact .inr fun q2=>h4 ⟨q.symm,q2.symm⟩
    ·exact .inl q
   rw[if_neg (fun q=>q.elim h3 fun q=>h4 (by simpa using q.1))]
   simp -implicitDefEqProofs[jJ,-qA,-qB];refine Ac b1 ?_;simp -implicitDefEqProofs[jJ,-qA,-qB,h1];refine Ac b2 ?_;simp -implicitDefEqProofs[jJ,-qA,-qB,h2];refine Ac b3 ?_;simp -implicitDefEqProofs[jJ,-qA,-qB,h3,h5];refine Ac r2 ?_;simp -implicitDefEqProofs[jJ,-qA,-qB,Fct.res]
theorem Z8(a b c d e f g h:Int):
  CallsF Tryz.prog 105 [.agg [.int .i64 a,.int .i64 b],.agg [.int .i64 c,.int .i64 d],.agg [.int .i64 e,.int .i64 f],.agg [.int .i64 g,.int .i64 h]] (Dn (a,b) (c,d) (e,f) (g,h)).res:=by
 by_cases h1:A6 (g,h) (a,b)<0
 ·by_cases h2:A6 (e,f) (c,d)<0
  ·exact jei a b c d e f g h h1 h2
  ·exact jbS a b c d e f g h h1 h2
 ·by_cases h2:A6 (e,f) (c,d)<0
  ·exact jgr a b c d e f g h h1 h2
  ·exact jj6 a b c d e f g h h1 h2
theorem OP{k:Int}(h:arity k≠0):k=1∨k=2∨k=3∨k=4∨k=5∨k=6∨k=7∨k=8∨k=9:=by
 unfold arity at h;by_cases q1:k=1∨k=5
 ·omega
 rw[if_neg q1]at h
 by_cases q2:k=2∨k=3∨k=4∨k=6∨k=9
 ·omega
 rw[if_neg q2]at h
 by_cases q3:k=7
 ·omega
 rw[if_neg q3]at h
 by_cases q4:k=8
 ·omega
 rw[if_neg q4]at h
 exact absurd rfl h
theorem jjM(f:Fct)(hf:f.Mild):CallsF Tryz.prog 41 [.agg f.ds] (normF f).res:=by
 have k1:=Ph f hf;have k2:=fun h=>(Fct.Rt.mk h hf).parts
 unfold normF;obtain⟨k,l,n,m,d⟩:=f;obtain⟨la,ld,oa,od,ln⟩:=hf;simp only[Fct.ds]at*;cases h:C3 ⟨k,l,n,m,d⟩
 ·rw[h]at k1
  refine cO Tryz.func41 rfl ?_;simp -implicitDefEqProofs[jJ,-qA,-qB];refine Ac k1 ?_
  simp -implicitDefEqProofs[jJ,-qA,-qB,Fct.res,Fct.zero]
 ·rw[h]at k1
  obtain⟨h1,h2,h3,h4⟩:=k2 h
  clear k2 h;rw[if_pos rfl];unfold normG;simp only;by_cases i1:k=1∨k=6∨k=8
  ·have r:=Rv l ln;rw[if_neg (by omega),if_neg (by omega),if_neg (by omega),if_neg (by omega),if_neg (by omega)]
   clear h1 h2 h3 h4;refine cO Tryz.func41 rfl ?_;simp -implicitDefEqProofs[jJ,-qA,-qB];refine Ac k1 ?_;rcases i1 with rfl|rfl|rfl<;>simp -implicitDefEqProofs[jJ,-qA,-qB]<;>refine AA (Ah [0,1,0,4,15,31]) [.any [] [] (Aq [[1],[17],[3],[19]]),.one,.one] (by rfl) ?_<;>simp -implicitDefEqProofs[jJ,-qA,-qB]<;>refine Ae r ?_<;>simp -implicitDefEqProofs[jJ,-qA,-qB,Fct.res]
  by_cases i2:k=5
  ·subst i2;obtain⟨a,b,c,rfl⟩:=HM (by simpa [arity]using h2)
   rw[if_pos rfl]
   have r:=Dk b c;clear h1 h2 h3 h4;refine cO Tryz.func41 rfl ?_;simp -implicitDefEqProofs[jJ,-qA,-qB];refine Ac k1 ?_;simp -implicitDefEqProofs[jJ,-qA,-qB];refine AA (Ah [0,1,3,0,8,24,63,0,255]) [.any [] [4] [⟨0,[3],[4],[4],[]⟩,⟨0,[24],[4],[4],[]⟩,⟨0,[25],[4],[4],[]⟩,⟨0,[3],[4],[4],[]⟩,⟨0,[27],[4],[4],[]⟩,⟨0,[28],[4],[4],[]⟩,⟨0,[26,29],[4],[4],[]⟩,⟨1,[],[],[],[]⟩],.one] (by rfl) ?_
   simp -implicitDefEqProofs[jJ,-qA,-qB,i64];refine Ae r ?_;simp -implicitDefEqProofs[jJ,-qA,-qB];refine AA (Ah [0,1,0,4,12,0,32,0,128,508,1023,2047]) [.any [] [40] ([⟨0,[1],[40],[40],[]⟩,⟨0,[31],[40],[40],[]⟩]++AG [40] [[3],[33],[34],[4],[36],[4],[38]]++[⟨1,[35,37,39],[],[],[]⟩]),.one,.one] (by rfl) ?_
   simp -implicitDefEqProofs[jJ,-qA,-qB,i64,Fct.res];rfl
  rw[if_neg i2]
  by_cases i3:k=7
  ·subst i3;obtain⟨a,b,c,e,a',b',c',e',rfl⟩:=IY (by simpa [arity]using h2)
   rw[if_neg (by omega),if_neg (by omega),if_neg (by omega),if_pos rfl]
   have r1:=Dk a b;have r2:=Dk c e;have r3:=Dk a' b';have r4:=Dk c' e';have r5:=Z8 (lo a b) (hi a b) (lo c e) (hi c e) (lo a' b') (hi a' b') (lo c' e') (hi c' e');simp only[A7];clear h1 h2 h3 h4;refine cO Tryz.func41 rfl ?_;simp -implicitDefEqProofs[jJ,-qA,-qB];refine Ac k1 ?_;simp -implicitDefEqProofs[jJ,-qA,-qB];refine AA (Ah [0,1,3,0,8,24,63,0,128,384,0,1024,3072,8191,0,16384,49152,0,131072,393216,1048575,0,2097152,6291456,0,16777216,50331648,134217727,268435455,536870911]) [.any [] [] (Aq [[3],[44],[45],[3],[47],[48],[46,49],[3],[51],[52],[3],[54],[55],[53,56],[3],[58],[59],[3],[61],[62],[60,63],[3],[65],[66],[3],[68],[69]]),.one,.one,.one] (by rfl) ?_
   simp -implicitDefEqProofs[jJ,-qA,-qB,i64];refine Ae r1 ?_;simp -implicitDefEqProofs[jJ,-qA,-qB];refine Ae r2 ?_;simp -implicitDefEqProofs[jJ,-qA,-qB];refine Ae r3 ?_;simp -implicitDefEqProofs[jJ,-qA,-qB];refine Ac r4 ?_;simp -implicitDefEqProofs[jJ,-qA,-qB];refine Ac r5 ?_;simp -implicitDefEqProofs[jJ,-qA,-qB,Fct.res]
  have hk:=OP h1;have h22:l.length=4:=by
   rw[h2]
   rcases hk with rfl|rfl|rfl|rfl|rfl|rfl|rfl|rfl|rfl<;>simp[arity]at*
  obtain⟨a,b,c,e,rfl⟩:=Eb h22
  have a1:=Dh (h3 a (by simp)) (h3 b (by simp))
  have a2:=C4 (h3 a (by simp)) (h3 b (by simp))
  have a3:=Dh (h3 c (by simp)) (h3 e (by simp))
  have a4:=C4 (h3 c (by simp)) (h3 e (by simp))
  have r1:=Dk a b;have r2:=Dk c e;have key: ∀R:Fct,CallsF Tryz.prog 106 [.agg [.int .i64 k,intsD [a,b,c,e],.bool n,Ad m,Ad d],.agg [.int .i64 (lo a b),.int .i64 (hi a b)],.agg [.int .i64 (lo c e),.int .i64 (hi c e)]] R.res→
    CallsF Tryz.prog 41 [.agg [.int .i64 k,intsD [a,b,c,e],.bool n,Ad m,Ad d]] R.res:=fun R hR=>by
   have j1: ¬k=1:=by omega
   have j6: ¬k=6:=by omega
   have j8: ¬k=8:=by omega
   clear h1 h2 h3 h4 hk i1;refine cO Tryz.func41 rfl ?_;simp -implicitDefEqProofs[jJ,-qA,-qB];refine Ac k1 ?_;simp -implicitDefEqProofs[jJ,-qA,-qB,j1,j6,j8,i2,i3];refine AA (Ah [0,0,2,6,0,16,48,126,0,256,768,0,2048,6144,16382,32767,65535]) [.any [] [] (Aq [[1],[3],[74],[75],[3],[77],[78],[76,79],[3],[81],[82],[3],[84],[85],[83,86]]),.one,.one] (by rfl) ?_
   simp -implicitDefEqProofs[jJ,-qA,-qB,i64];refine Ae r1 ?_;simp -implicitDefEqProofs[jJ,-qA,-qB];refine Ae r2 ?_;simp -implicitDefEqProofs[jJ,-qA,-qB];refine Ac hR ?_;simp -implicitDefEqProofs[jJ,-qA,-qB,Fct.res]
  refine key _ ?_;rw[if_neg i3];simp only[A7];by_cases q2:k=2
  ·subst q2;rw[if_pos rfl];exact jjD _ n m d _ _ _ _ a1 a2 a3 a4
  rw[if_neg q2]
  by_cases q3:k=3∨k=4
  ·rw[if_pos q3]
   exact Rh k _ n m d _ _ _ _ q3
  rw[if_neg q3]
  have q9:k=9:=by omega
  subst q9;rw[if_pos rfl];rw[if_pos rfl]at h4;obtain⟨e1,e2,d0,g,_⟩:=Cz h4 oa od;have r:=Vr [a,b,c,e] n (val m) (val d) (lo a b) (hi a b) (lo c e) (hi c e) (oa.ltW la) (od.ltW ld) d0 g
  rwa [←e1,←e2]at r
def KD:List (List Nat):=(Ah [0,1,3,0,8,24,63,0,128,384,0,1024,3072,8191,0,0,65535,131071])
@[simp]def Kr:List Seg:=[.any [] [4,5] [⟨0,[3],[4,5],[4,5],[]⟩,⟨0,[68],[4,5],[4,5],[]⟩,⟨0,[69],[4,5],[4,5],[]⟩,⟨0,[3],[4,5],[4,5],[]⟩,⟨0,[71],[4,5],[4,5],[]⟩,⟨0,[72],[4,5],[4,5],[]⟩,⟨0,[70,73],[4,5],[4,5],[]⟩,⟨0,[3],[4,5],[4,5],[]⟩,⟨0,[75],[4,5],[4,5],[]⟩,⟨0,[76],[4,5],[4,5],[]⟩,⟨0,[3],[4,5],[4,5],[]⟩,⟨0,[78],[4,5],[4,5],[]⟩,⟨0,[79],[4,5],[4,5],[]⟩,⟨0,[77,80],[4,5],[4,5],[]⟩,⟨1,[],[5],[5],[]⟩,⟨1,[],[4],[4],[]⟩],.one,.one]
theorem UK(l:List Int):l.Nodup↔ ∀p q (hq:q<l.length) (hp:p<q),l[p]≠l[q]:=by
 unfold List.Nodup;rw[List.pairwise_iff_getElem];exact⟨fun h p q hq hp=>h p q (by omega) hq hp,fun h p q _ hq hp=>h p q hq hp⟩
theorem VO(l:List Int)(hl:l.length≤1099511627776):CallsF Tryz.prog 107 [.c (intsD l)] (.u (.c (.d (.bool (!decide l.Nodup))))):=by
 refine cO Tryz.func107 rfl ?_;simp -implicitDefEqProofs[jJ,-qA,-qB];refine AV (fun i:Nat=>⟨[(3,vI .i64 i),(0,vC (.d (intsD l)))],[]⟩) (fun i=>i≤l.length∧ ∀p q (hq:q<l.length) (hp:p<q),p<i→l[p]≠l[q]) (fun i=>l.length - i) 0 (by simp) (by simp) ?_
 rintro i ⟨h1,h2⟩
 by_cases h:i<l.length
 ·simp -implicitDefEqProofs[jJ,-qA,-qB,h];refine⟨by omega,?_⟩
  refine AV (fun k:Nat=>⟨[(4,vI .i64 k),(3,vI .i64 i),(0,vC (.d (intsD l)))],[]⟩) (fun k=>i<k∧k≤l.length∧ ∀q (hq:q<l.length) (hp:i<q),q<k→l[i]≠l[q]) (fun k=>l.length - k) (i+1) (by simp) (And.intro (Nat.lt_succ_self i) (And.intro h fun q hq a b=>absurd b (by omega))) ?_
  rintro k ⟨j1,j2,j3⟩
  by_cases g:k<l.length
  ·simp -implicitDefEqProofs[jJ,-qA,-qB,g];refine AA (Ah [0,0,3,7,0,0,48,112,255]) [.any [] [] (Aq [[0],[3],[19,20],[21],[0],[4],[23,24],[25]]),.one] (by rfl) ?_
   simp -implicitDefEqProofs[jJ,-qA,-qB,h,g,i64];by_cases e:l[i]=l[k]
   ·simp -implicitDefEqProofs[jJ,-qA,-qB,e];rw[UK];exact fun q=>q i k g j1 e
   ·simp -implicitDefEqProofs[jJ,-qA,-qB,e];exact⟨by omega,⟨by omega,by omega,fun q hq a b=>if c:q=k then by subst c;exact e else j3 q hq a (by omega)⟩,by omega⟩
  ·have:k=l.length:=by omega
   subst this;simp -implicitDefEqProofs[jJ,-qA,-qB];exact⟨by omega,⟨by omega,fun p q hq hp a=>if c:p=i then by subst c;exact j3 q hq hp hq else h2 p q hq hp (by omega)⟩,by omega⟩
 ·have:i=l.length:=by omega
  subst this;simp -implicitDefEqProofs[jJ,-qA,-qB];rw[UK];exact fun p q hq hp=>h2 p q hq hp (by omega)
theorem ZY(a1 b1 c1 d1 e1 f1 g1 h1:Int):CallsF Tryz.prog 108 [.agg [.int .i64 a1,.int .i64 b1],.agg [.int .i64 c1,.int .i64 d1],.agg [.int .i64 e1,.int .i64 f1],.agg [.int .i64 g1,.int .i64 h1]]
  (.u (.c (.d (.bool (H0 (a1,b1) (c1,d1) (e1,f1) (g1,h1)))))):=by
 unfold H0;refine cO Tryz.func108 rfl ?_;simp -implicitDefEqProofs[jJ,-qA,-qB];by_cases q1:a1=b1
 ·simp -implicitDefEqProofs[jJ,-qA,-qB,q1]
 by_cases q2:c1=d1
 ·simp -implicitDefEqProofs[jJ,-qA,-qB,q1,q2]
 by_cases q3:e1=f1
 ·simp -implicitDefEqProofs[jJ,-qA,-qB,q1,q2,q3]
 by_cases q4:g1=h1
 ·simp -implicitDefEqProofs[jJ,-qA,-qB,q1,q2,q3,q4]
 simp -implicitDefEqProofs[jJ,-qA,-qB,q1,q2,q3,q4];clear q1 q2 q3 q4;have E: ∀x y:Int,(x=y)=(y=x):=fun x y=>propext eq_comm
 simp only[E c1 a1,E d1 b1,E e1 g1,E f1 h1,E c1 g1,E d1 h1,E e1 a1,E f1 b1];clear E;rcases Classical.propComplete (a1=c1)with x1|x1<;>rcases Classical.propComplete (b1=d1)with x2|x2<;>
  rcases Classical.propComplete (g1=e1)with x3|x3<;>rcases Classical.propComplete (h1=f1)with x4|x4<;>
  simp only[x1,x2,x3,x4,decide_true,decide_false,Bool.true_and,Bool.and_true,Bool.false_and,Bool.and_false,Bool.or_false,Bool.false_or,Bool.or_true,Bool.true_or,true_and,and_true,false_and,and_false,or_false,or_true,true_or,false_or,not_true_eq_false,not_false_eq_true,true_implies,false_implies,implies_true]<;>
  rcases Classical.propComplete (a1=e1)with x5|x5<;>rcases Classical.propComplete (b1=f1)with x6|x6<;>
  rcases Classical.propComplete (g1=c1)with x7|x7<;>rcases Classical.propComplete (h1=d1)with x8|x8<;>
  simp[x5,x6,x7,x8]
theorem V8(f:Fct)(hf:f.Mild):CallsF Tryz.prog 42 [.agg f.ds] (.u (.c (.d (.bool (Gi f))))):=by
 have k1:=Ph f hf;have k2:=fun h=>(Fct.Rt.mk h hf).parts
 unfold Gi;obtain⟨k,l,n,m,d⟩:=f;obtain⟨la,ld,oa,od,ln⟩:=hf;simp only[Fct.ds]at*;cases h:C3 ⟨k,l,n,m,d⟩
 ·rw[h]at k1
  refine cO Tryz.func42 rfl ?_;simp -implicitDefEqProofs[jJ,-qA,-qB];refine Ac k1 ?_
  simp -implicitDefEqProofs[jJ,-qA,-qB]
 ·rw[h]at k1
  obtain⟨h1,h2,h3,h4⟩:=k2 h
  clear k2 h;unfold MW;simp only;rw[Bool.true_and];by_cases i1:k=1∨k=6∨k=8
  ·rw[if_pos i1]
   have r:=VO l ln;clear h1 h2 h3 h4;refine cO Tryz.func42 rfl ?_;simp -implicitDefEqProofs[jJ,-qA,-qB];refine Ac k1 ?_;rcases i1 with rfl|rfl|rfl<;>simp -implicitDefEqProofs[jJ,-qA,-qB]<;>refine Ac r ?_<;>simp -implicitDefEqProofs[jJ,-qA,-qB]
  rw[if_neg i1]
  by_cases i2:k=5
  ·subst i2;obtain⟨a,b,c,rfl⟩:=HM (by simpa [arity]using h2)
   rw[if_pos rfl]
   clear h1 h2 h3 h4;refine cO Tryz.func42 rfl ?_;simp -implicitDefEqProofs[jJ,-qA,-qB];refine Ac k1 ?_;simp -implicitDefEqProofs[jJ,-qA,-qB];refine AA (Ah [0,1,3,0,8,24,63,127,255,511,1023,255,2303,6399,16383,32767,65535]) [.any [] [] (Aq [[3],[21],[22],[3],[24],[25]]),.one,.one,.any [] [] (Aq [[3,28],[29,28],[30,28],[3,28],[32,28],[33,28]]),.one,.one,.one] (by rfl) ?_
   by_cases j:a=b<;>simp -implicitDefEqProofs[jJ,-qA,-qB,j,i64]
  rw[if_neg i2]
  by_cases i4:k=7
  ·subst i4;obtain⟨a,b,c,e,a',b',c',e',rfl⟩:=IY (by simpa [arity]using h2)
   rw[if_neg (by omega),if_pos rfl]
   have r1:=Dk a b;have r2:=Dk c e;have r3:=Dk a' b';have r4:=Dk c' e';have r5:=ZY (lo a b) (hi a b) (lo c e) (hi c e) (lo a' b') (hi a' b') (lo c' e') (hi c' e');simp only[A7];clear h1 h2 h3 h4;refine cO Tryz.func42 rfl ?_;simp -implicitDefEqProofs[jJ,-qA,-qB];refine Ac k1 ?_;simp -implicitDefEqProofs[jJ,-qA,-qB];refine AA (Ah [0,1,3,0,8,24,63,0,128,384,0,1024,3072,8191,0,16384,49152,0,131072,393216,1048575,0,2097152,6291456,0,16777216,50331648,134217727,268435455,536870911]) [.any [] [] (Aq [[3],[39],[40],[3],[42],[43],[41,44],[3],[46],[47],[3],[49],[50],[48,51],[3],[53],[54],[3],[56],[57],[55,58],[3],[60],[61],[3],[63],[64]]),.one,.one,.one] (by rfl) ?_
   simp -implicitDefEqProofs[jJ,-qA,-qB,i64];refine Ae r1 ?_;simp -implicitDefEqProofs[jJ,-qA,-qB];refine Ae r2 ?_;simp -implicitDefEqProofs[jJ,-qA,-qB];refine Ae r3 ?_;simp -implicitDefEqProofs[jJ,-qA,-qB];refine Ac r4 ?_;simp -implicitDefEqProofs[jJ,-qA,-qB];refine Ac r5 ?_;simp -implicitDefEqProofs[jJ,-qA,-qB]
  have hk:=OP h1;have h22:l.length=4:=by
   rw[h2]
   rcases hk with rfl|rfl|rfl|rfl|rfl|rfl|rfl|rfl|rfl<;>simp[arity]at*
  obtain⟨a,b,c,e,rfl⟩:=Eb h22
  have r1:=Dk a b;have r2:=Dk c e;by_cases i3:k=9
  ·subst i3;rw[if_pos rfl]at h4 ⊢;obtain⟨e1,e2,d0,g,_⟩:=Cz h4 oa od;have k4:=UH n (val m) (val d) (oa.ltW la) (od.ltW ld) d0 g;have k5:=Ic 1 (by omega)
   have k7:=Na n (val m) (val d) (by have:=oa.ltW la;omega) (by have:=od.ltW ld;omega) d0 g
   rw[←e1,←e2]at k4 k7
   unfold Km A7;simp only;clear h1 h2 h3 h4 e1 e2;generalize lo c e=x at*;generalize hi c e=y at*;generalize lo a b=z at*;generalize hi a b=t at*;simp only[Prod.mk.injEq];refine cO Tryz.func42 rfl ?_;simp -implicitDefEqProofs[jJ,-qA,-qB];refine Ac k1 ?_;simp -implicitDefEqProofs[jJ,-qA,-qB];refine AA KD Kr (by rfl) ?_
   simp -implicitDefEqProofs[jJ,-qA,-qB,i64];refine Ae r1 ?_;simp -implicitDefEqProofs[jJ,-qA,-qB];refine Ae r2 ?_;simp -implicitDefEqProofs[jJ,-qA,-qB];refine AA (Ah [0,0,3,7,15,31,15,127,255,511,1023,2047,1023,5119,16383,32767,65535,131071,65535,327679,1048575,2097151,4194303,8388607,16777215,33554431,67108863,134217727,268435455,536870911]) [.any [] [] (Aq [[4],[5]]),.one,.one,.any [] [] (Aq [[1,139],[140,139],[139]]),.one,.one,.one,.any [] [] (Aq [[4,145],[146,145],[4,145],[148,145]]),.one,.one,.any [] [] (Aq [[5,151],[152,151],[5,151],[154,151]]),.one,.one,.one,.one,.one,.one,.one,.one,.one,.one] (by rfl) ?_
   by_cases j1:z=x∧t=y
   ·obtain⟨rfl,rfl⟩:=j1
    simp -implicitDefEqProofs[jJ,-qA,-qB];refine Ae k5 ?_;simp -implicitDefEqProofs[jJ,-qA,-qB];refine Ac k4 ?_;by_cases j2:toZ n (val m)=val d
    ·simp -implicitDefEqProofs[jJ,-qA,-qB,j2]
    ·simp -implicitDefEqProofs[jJ,-qA,-qB,j2];by_cases j3:z=t
     ·simp -implicitDefEqProofs[jJ,-qA,-qB,j3]
     ·simp -implicitDefEqProofs[jJ,-qA,-qB,j3]
   ·have j1':(decide (z=x)&&decide (t=y))=false:=by simpa using j1
    simp -implicitDefEqProofs[jJ,-qA,-qB,j1,j1'];by_cases j3:z=t
    ·subst j3;simp -implicitDefEqProofs[jJ,-qA,-qB];by_cases j4:x=y
     ·simp -implicitDefEqProofs[jJ,-qA,-qB,j4]
     ·simp -implicitDefEqProofs[jJ,-qA,-qB,j4];refine Ac k7 ?_;simp -implicitDefEqProofs[jJ,-qA,-qB,Dw,j1']
    ·simp -implicitDefEqProofs[jJ,-qA,-qB,j3,j1']
  rw[if_neg i3,if_neg i4]
  have hk:k=2∨k=3∨k=4:=by omega
  simp only;unfold A7;clear h1 h2 h3 h4 i1 i2 i3 i4;generalize lo c e=x at*;generalize hi c e=y at*;generalize lo a b=z at*;generalize hi a b=t at*;clear la ld oa od ln;simp only[Prod.mk.injEq];rcases hk with rfl|rfl|rfl
  ·refine cO Tryz.func42 rfl ?_;simp -implicitDefEqProofs[jJ,-qA,-qB];refine Ac k1 ?_
   simp -implicitDefEqProofs[jJ,-qA,-qB];refine AA KD Kr (by rfl) ?_
   simp -implicitDefEqProofs[jJ,-qA,-qB,i64];refine Ae r1 ?_;simp -implicitDefEqProofs[jJ,-qA,-qB];refine Ae r2 ?_;simp -implicitDefEqProofs[jJ,-qA,-qB];by_cases j1:z=t<;>by_cases j2:x=y<;>simp[j1,j2]
  ·refine cO Tryz.func42 rfl ?_;simp -implicitDefEqProofs[jJ,-qA,-qB];refine Ac k1 ?_
   simp -implicitDefEqProofs[jJ,-qA,-qB];refine AA KD Kr (by rfl) ?_
   simp -implicitDefEqProofs[jJ,-qA,-qB,i64];refine Ae r1 ?_;simp -implicitDefEqProofs[jJ,-qA,-qB];refine Ae r2 ?_;simp -implicitDefEqProofs[jJ,-qA,-qB];by_cases j1:z=t<;>by_cases j2:x=y<;>simp[j1,j2]
  ·refine cO Tryz.func42 rfl ?_;simp -implicitDefEqProofs[jJ,-qA,-qB];refine Ac k1 ?_
   simp -implicitDefEqProofs[jJ,-qA,-qB];refine AA KD Kr (by rfl) ?_
   simp -implicitDefEqProofs[jJ,-qA,-qB,i64];refine Ae r1 ?_;simp -implicitDefEqProofs[jJ,-qA,-qB];refine Ae r2 ?_;simp -implicitDefEqProofs[jJ,-qA,-qB];by_cases j1:z=t<;>by_cases j2:x=y<;>simp[j1,j2]<;>exact fun a b=>⟨a,b⟩
def BJ(z:Int):List RC:=[.d (.bool (decide (z<0))),.d (Ad (limbs z.natAbs))]
theorem Up(neg:Bool)(n:Nat):AU neg n=BJ (toZ neg n):=by
 unfold AU BJ toZ sg;cases neg with
 |false=>simp
 |true=>
  have:decide (-(n:Int)<0)=decide (0<n):=decide_eq_decide.2 (by omega)
  simp[this]
theorem Fo{neg:Bool}{n:Nat}{z:Int}(h:toZ neg n=z):AU neg n=BJ z:=by rw[Up,h]
theorem RS(na nb:Bool)(a b:List Nat)(ha:Ok a)(hl:a.length≤100000)(hb:Ok b)(hm:b.length≤100000):
  CallsF Tryz.prog 276 [.agg [.bool na,Ad a],.agg [.bool nb,Ad b]] (.u (.agg (BJ (toZ na (val a)+toZ nb (val b))))):=by
 have kc:=Jr a b ha (by omega) hb (by omega)
 have kA:=jc1 a b ha hl hb hm;have kS:=Qc a b ha hl hb hm;have kS':=Qc b a hb hm ha hl;generalize val a=m at*;generalize val b=n at*;clear ha hl hb hm;have k1:=Hi na (m+n);have k2:=Hi na (m - n);have k3:=Hi nb (n - m);by_cases hs:na=nb
 ·subst hs;have e:AU na (m+n)=BJ (toZ na m+toZ na n):=Fo (by unfold toZ;cases na<;>simp<;>omega)
  rw[e]at k1
  unfold BJ at*;generalize toZ na m+toZ na n=z at*;refine cO Tryz.func276 rfl ?_;simp -implicitDefEqProofs[jJ,-qA,-qB];refine AA (Ah [0,1,0,4,0,16,60,127,255]) [.any [] [] (Aq [[2],[12],[2],[14],[3],[16],[15,17]]),.one,.one] (by rfl) ?_
  simp -implicitDefEqProofs[jJ,-qA,-qB]
  (first|refine Ac kA ?_|refine Ae kA ?_)
  simp -implicitDefEqProofs[jJ,-qA,-qB]
  (first|refine Ac k1 ?_|refine Ae k1 ?_)
  simp -implicitDefEqProofs[jJ,-qA,-qB]
 ·by_cases hlt:m<n
  ·have kS':=kS' (by omega)
   have hc:cmp3 m n<0:=by rw[IZ hlt];omega
   have e:AU nb (n - m)=BJ (toZ na m+toZ nb n):=Fo (by unfold toZ;cases na<;>cases nb<;>simp at hs ⊢ <;>omega)
   rw[e]at k3
   unfold BJ at*;generalize toZ na m+toZ nb n=z at*;refine cO Tryz.func276 rfl ?_;simp -implicitDefEqProofs[jJ,-qA,-qB,hs]
   (first|refine Ac kc ?_|refine Ae kc ?_)
   simp -implicitDefEqProofs[jJ,-qA,-qB,hc]
   (first|refine Ac kS' ?_|refine Ae kS' ?_)
   simp -implicitDefEqProofs[jJ,-qA,-qB]
   (first|refine Ac k3 ?_|refine Ae k3 ?_)
   simp -implicitDefEqProofs[jJ,-qA,-qB]
  ·have kS:=kS (by omega)
   have hc: ¬cmp3 m n<0:=by
    unfold cmp3;rw[if_neg (by omega)]
    split<;>omega
   have e:AU na (m - n)=BJ (toZ na m+toZ nb n):=Fo (by unfold toZ;cases na<;>cases nb<;>simp at hs ⊢ <;>omega)
   rw[e]at k2
   unfold BJ at*;generalize toZ na m+toZ nb n=z at*;refine cO Tryz.func276 rfl ?_;simp -implicitDefEqProofs[jJ,-qA,-qB,hs]
   (first|refine Ac kc ?_|refine Ae kc ?_)
   simp -implicitDefEqProofs[jJ,-qA,-qB,hc]
   (first|refine Ac kS ?_|refine Ae kS ?_)
   simp -implicitDefEqProofs[jJ,-qA,-qB]
   (first|refine Ac k2 ?_|refine Ae k2 ?_)
   simp -implicitDefEqProofs[jJ,-qA,-qB]
end Go.Va
