/- a part of the proof -/
import Derived.Test.YtkfdniccmcolgaaGreatQbn
import Derived.Test.YtkfdniccmcolgaaGreatQbm
set_option linter.all false
set_option maxHeartbeats 4000000
set_option maxRecDepth 10000
namespace Go.Va
open Int (natCast_add natCast_mul natCast_emod natCast_ediv natCast_pow)
open Go.Proofs
theorem jgI(x:Value)(f:Fct):Bp Tryz.prog x 55 (Di f++[.c (.ref [.lit x])]) [DK (f,[])]:=by
 simp only[Di,List.cons_append,List.nil_append];refine Cz (T:=tb) Ad mixed Tryz.func55 rfl (by decide) (Ac rfl) rfl rfl ?_;intro rest;unfold St.initY
 simp only[Fct.ds];simp -implicitDefEqProofs[jJ,-natCast_add,-natCast_mul,-List.map_set,-List.reduceReplicate];refine⟨_,rest,by simp[lk];rfl,by simp[DK,grdsD,St.argsW,U.toA,toD,lk],?_⟩
 simp -implicitDefEqProofs[jJ,-natCast_add,-natCast_mul,-List.map_set,-List.reduceReplicate,St.reachU,A6,St.backY,St.rest,BH]
def Cl(Y:List Fct→List Fct)(n:Int)(ps:List Fct):List Fnd:=
 if (rulT n).name=[]∨(ps.length:Int)≠(rulT n).count then [] else
 if (ps.map normF).any (fun f=>decide (f.kind=0)) then [] else CU DH (runF (ps.map normF) [] ((Y (ps.map normF)).map fun f=>(f,[])))
theorem RF(n:Int)(G:Nat)(Y:List Fct→List Fct)(ps:List Fct)(hps: ∀f∈ps,f.Mild)(hd:(rulT n).derive= .fn G [])(hl:ps.length≤1000)
  (hY:(ps.length:Int)=(rulT n).count→(∀f∈ps,(normF f).kind≠0)→(∀x',Bp Tryz.prog x' G [.c (AE (ps.map normF)),.c (.lit x')] ((Y (ps.map normF)).map Di))∧(∀f∈Y (ps.map normF),f.Mild)∧(Y (ps.map normF)).length≤1000):
  CallsF Tryz.prog 29 [.c (.int .i64 n),.c (AE ps)] (.u (.c (.own 6 (Cl Y n ps).length ((Cl Y n ps).flatMap Fnd.ds)))):=by
 have k1:=Wj n;generalize hL:Cl Y n ps=L;unfold Cl at hL;generalize rulT n=r at*;simp only[Rul.res,Rul.ds,B9]at k1;rw[hd]at k1;refine Ae (T:=tb) Ad mixed Tryz.func29 rfl (by decide) (Ac rfl) rfl ?_;unfold St.init
 simp -implicitDefEqProofs[jJ,-natCast_add,-natCast_mul,-List.map_set,-List.reduceReplicate];refine Aa k1 ?_;simp -implicitDefEqProofs[jJ,-natCast_add,-natCast_mul,-List.map_set,-List.reduceReplicate];by_cases h0:r.name=[]
 ·rw[if_pos (.inl h0)]at hL
  subst hL;simp -implicitDefEqProofs[jJ,-natCast_add,-natCast_mul,-List.map_set,-List.reduceReplicate,h0]
 by_cases h1:(ps.length:Int)=r.count
 ·rw[if_neg (by simp[h0,h1])]at hL
  replace hY:=hY h1
  obtain⟨nm,pr,cc,gg,cnt,dd⟩:=r
  simp only at*;subst h1;subst hd;simp -implicitDefEqProofs[jJ,-natCast_add,-natCast_mul,-List.map_set,-List.reduceReplicate,h0];refine⟨by omega,?_⟩
  rw[Px]
  refine Av (fun i:Nat=>⟨[(28,vI .i64 i),(27,vI .i64 ps.length),(26,vC (.d (AE ps))),(6,vC (.ptr 6 0)),(5,vC (.ptr 5 0))],
   [(6,.box [.sl 25 0 ps.length]),(25,.row 5 ((CS ps i).flatMap Fct.ds) true),(5,.box [.d (.str (bs nm)),.d (.slice pr.length (pr.flatMap Pat.ds)),.d (.slice cc.length (cc.flatMap Pat.ds)),.d (.slice gg.length (gg.flatMap Pat.ds)),.d (.int .i64 ps.length),.d (.fn G [])])]⟩)
   (fun i=>i≤ps.length∧ ∀f∈ps.take i,(normF f).kind≠0) (fun i=>ps.length - i) 0 (by simp[An,lk,St.le,vI,vC,CS]) ⟨by omega,by simp⟩ ?_
  rintro i ⟨hi,hz⟩
  by_cases h:i<ps.length
  ·have k2:=LL ps[i] (hps _ (Ak h));have e2:=DO h;have g2:=Wg h;have st:=LU Fct.ds_len (CS ps i) i (normF ps[i]) (by rw[Jb hi];exact h)
   rw[MZ h]at st
   simp only[Fct.ds]at k2 st;simp -implicitDefEqProofs[jJ,-natCast_add,-natCast_mul,-List.map_set,-List.reduceReplicate,h,e2];refine Af (Aj [0,0,0,4,15,31]) [.any [] [] (Ao [[6],[7],[8],[35]]),.one,.one] (by rfl) ?_
   simp -implicitDefEqProofs[jJ,-natCast_add,-natCast_mul,-List.map_set,-List.reduceReplicate];refine Al k2 ?_;simp -implicitDefEqProofs[jJ,-natCast_add,-natCast_mul,-List.map_set,-List.reduceReplicate,Fct.res,h,st,g2];refine⟨by rw[Jb hi];omega,fun hk=> ?_,fun hk=> ?_⟩
   ·rw[if_pos (List.any_eq_true.2 ⟨normF ps[i],jzk.2 ⟨_,Ak h,rfl⟩,by simpa using hk⟩)]at hL
    subst hL;simp
   ·refine⟨by omega,i+1,⟨rfl,rfl⟩,⟨by omega,fun f hf=> ?_⟩,by omega⟩
    rw[AQ h,List.mem_append,List.mem_singleton]at hf
    rcases hf with hf|rfl
    ·exact hz f hf
    ·exact hk
  ·have hi2:i=ps.length:=by omega
   subst hi2;rw[U0];rw[AZ]at hz;have hrt: ∀f∈ps.map normF,f.Rt:=fun f hf=>by
    obtain⟨g,hg,rfl⟩:=jzk.1 hf
    exact Ca (hps g hg) (hz g hg)
   rw[if_neg (by
    rw[List.any_eq_true]
    rintro⟨f,hf,hk⟩
    obtain⟨g,hg,rfl⟩:=jzk.1 hf
    exact hz g hg (by simpa using hk))]at hL
   obtain⟨kS,hYm,hYl⟩:=hY hz
   have hln:ps.length=(ps.map normF).length:=by simp
   have hn3:(ps.map normF).length≤1000:=by simp;omega
   rw[hln]
   generalize ps.map normF=nl at*;generalize hPd:(Y nl).map (fun f=>((f,[]):AR))=P at*
   have hP: ∀x∈P,FY x:=by
    rw[←hPd]
    intro x hx;obtain⟨f,hf,rfl⟩:=jzk.1 hx;exact⟨hYm f hf,by simp,by simp⟩
   have hPl:P.length≤1000:=by rw[←hPd];simpa using hYl
   have hys:((Y nl).map Di).flatMap (fun y=>[y++[.c (grdsD [])]])=P.map DK:=by
    rw[←hPd]
    generalize Y nl=l
    induction l with
    |nil=>rfl
    |cons f l ih=>simp only[List.map_cons,List.flatMap_cons,ih];rfl
   have kZ: ∀(x:Value) (y:List A),y∈(Y nl).map Di→Bp Tryz.prog x 55 (y++[.c (.ref [.lit x])]) [y++[.c (grdsD [])]]:=by
    intro x y hy;obtain⟨f,hf,rfl⟩:=jzk.1 hy;exact jgI x f
   have kC:=VE nl hrt hn3 P hP (by omega)
   have hP0:runF nl [] (P.take (P.length - (P.map DK).length))=[]:=by rw[List.length_map,Nat.sub_self];rfl
   have hP1:runF nl [] (P.take (P.length - ([]:List (List A)).length))=runF nl [] P:=by rw[List.length_nil,Nat.sub_zero,AZ]
   have hok:=G7 (nl:=nl) P [] .nil hP;have hlen:=Ip nl P [];simp only[AE]at kS;simp -implicitDefEqProofs[jJ,-natCast_add,-natCast_mul,-List.map_set,-List.reduceReplicate];refine .inr (.inr (.inr (.inr (.inl (.inr (.inl ⟨rfl,[.c (.sl 25 0 nl.length)],55,10,48,[.ptr 6 0,.ptr 9 0],[.c (.slice nl.length (nl.flatMap Fct.ds))],(Y nl).map Di,fun y=>[y++[.c (grdsD [])]],fun rem=>CX nl (runF nl [] (P.take (P.length - rem.length))),[25,10],[6,9],[80],rfl,by simp[lk],by simp,?_,kS,kZ,by rw[hys];exact kC,?_,?_⟩))))))
   ·simp -implicitDefEqProofs[jJ,-natCast_add,-natCast_mul,-List.map_set,-List.reduceReplicate,U.toA,toD]
   ·rw[hys]
    dsimp only
    rw[hP0,hP1,Gr]
    clear kC kS kZ k1 hP0 hP1 hL hok hlen hys;refine⟨by simp,?_,?_,?_,by simp,?_⟩
    ·intro c hc j hj;simp only[jzn,AM,or_false]at hc;rcases hc with rfl|rfl<;>(simp[C.id?]at hj;subst hj;simp)
    ·intro j b hb;simp only[lk]at hb;split at hb
     ·rename_i e
      subst e;cases hb;refine⟨by simp,by simp -implicitDefEqProofs[jJ,-natCast_add,-natCast_mul,-List.map_set,-List.reduceReplicate],?_⟩
      intro c hc k hk;simp at hc;subst hc;simp[C.id?]at hk
     ·split at hb
      ·rename_i e
       subst e;cases hb;refine⟨by simp,by simp -implicitDefEqProofs[jJ,-natCast_add,-natCast_mul,-List.map_set,-List.reduceReplicate],?_⟩
       intro c hc k hk;simp at hc;subst hc;simp[C.id?]at hk
      ·cases hb
    ·intro j hj;simp only[jzn,AM,or_false]at hj;rcases hj with rfl|rfl<;>simp[lk]
    ·intro j b hb;unfold CX at hb;split at hb
     ·simp only[lk]at hb;split at hb
      ·rename_i e;subst e;simp
      ·split at hb
       ·rename_i e;subst e;simp
       ·cases hb
     ·simp only[lk]at hb;split at hb
      ·rename_i e;subst e;simp
      ·split at hb
       ·rename_i e;subst e;simp
       ·split at hb
        ·rename_i e;subst e;simp
        ·cases hb
   ·dsimp only
    rw[hP1]
    generalize runF nl [] P=m at*;by_cases hm:m=[]
    ·subst hm;rw[Gr];have hL0:L=[]:=hL.symm;subst hL0;simp -implicitDefEqProofs[jJ,-natCast_add,-natCast_mul,-List.map_set,-List.reduceReplicate,St.backX,EW];refine Aa Sw ?_;simp -implicitDefEqProofs[jJ,-natCast_add,-natCast_mul,-List.map_set,-List.reduceReplicate]
    ·rw[GC nl hm]
     have q1:=fun i=>WQ i m true (by simp at hlen;omega) hok
     have hlL:L.length=m.length:=by rw[←hL];exact I0 m
     rw[hL]at q1
     simp -implicitDefEqProofs[jJ,-natCast_add,-natCast_mul,-List.map_set,-List.reduceReplicate,St.backX,EW];refine .inr (.inl (Fw (q1 80) (by simp[CW,U.all,C.id?]) (by simp[lk]) ?_))
     simp -implicitDefEqProofs[jJ,-natCast_add,-natCast_mul,-List.map_set,-List.reduceReplicate,St.backW,hlL]
 ·rw[if_pos (.inr h1)]at hL
  subst hL;simp -implicitDefEqProofs[jJ,-natCast_add,-natCast_mul,-List.map_set,-List.reduceReplicate,h0,h1]
end Go.Va
namespace Go.Va
open Go.Proofs
def Fct.Short2(f:Fct):Prop:=f.abs.length≤2∧f.den.length≤2
theorem NE(k:Int)(p q:Int×Int):(B6 k p q).Short2:=by
 unfold B6;split<;>exact⟨by simp,by simp⟩
theorem jfr(p q:Int×Int):(DX p q).Short2:=by
 unfold DX;split
 ·exact⟨by simp,by simp⟩
 ·split
  ·exact⟨by simp,by simp⟩
  ·exact NE _ _ _
theorem YC(u v w z:Int×Int):(Ci u v w z).Short2:=by
 unfold Ci;split<;>exact⟨by simp,by simp⟩
theorem Im:Fct.zero.Short2:=⟨by simp[Fct.zero],by simp[Fct.zero]⟩
theorem GY{f:Fct}(hm:f.Mild)(h:f.Short2):(normF f).Short2:=by
 unfold normF;split
 ·rename_i ok
  have r:f.Rt:=⟨ok,hm⟩;have p4:=r.parts.2.2.2;unfold normG;split
  ·split
   ·exact⟨by simp,by simp⟩
   ·exact Im
  split
  ·split
   ·exact jfr _ _
   ·exact Im
  split
  ·split
   ·exact NE _ _ _
   ·exact Im
  split
  ·rename_i h9
   rw[if_pos h9]at p4
   obtain⟨e1,e2,_,_,_⟩:=C7 p4 hm.oa hm.od
   have l1:(limbs (val f.abs)).length≤2:=by rw[←e1];exact h.1
   have l2:(limbs (val f.den)).length≤2:=by rw[←e2];exact h.2
   split
   ·unfold Cr;split
    ·exact NE _ _ _
    split
    ·exact⟨l2,l1⟩
    split
    ·exact⟨l2,l1⟩
    ·exact⟨l1,l2⟩
   ·exact Im
  split
  ·split
   ·exact YC _ _ _ _
   ·exact Im
  ·exact⟨by simp,by simp⟩
 ·exact Im
theorem K5{f:Fct}(h:f.Short2): ∀g∈rdR f,g.Short2:=by
 intro g hg;have h1:(limbs 1).length≤2:=by decide
 unfold rdR at hg;split at hg
 ·simp only[jzn,AM,or_false]at hg;rcases hg with rfl|rfl<;>exact⟨h1,h1⟩
 ·split at hg
  ·rw[jzn]at hg
   rcases hg with rfl|hg
   ·exact h
   ·split at hg
    ·cases hg
    ·simp only[jzn,AM,or_false]at hg;subst hg;exact⟨h.2,h.1⟩
  ·cases hg
theorem Q0{f g:Fct}(hf:f.Rto)(hg:g.Rto)(sf:f.Short2)(sg:g.Short2):(Ek f g).Mild:=by
 have l1:=Fe f.abs g.abs hf.mild.oa hg.mild.oa;have l2:=Fe f.den g.den hf.mild.od hg.mild.od;have a1:=GS (Nat.div_le_self (val f.abs*val g.abs) (Nat.gcd (val f.abs*val g.abs) (val f.den*val g.den)));have a2:=GS (Nat.div_le_self (val f.den*val g.den) (Nat.gcd (val f.abs*val g.abs) (val f.den*val g.den)));obtain⟨s1,s2⟩:=sf;obtain⟨s3,s4⟩:=sg;refine⟨?_,?_,Ap _,Ap _,by simp[Ek]⟩
 ·show(limbs (val f.abs*val g.abs/Nat.gcd (val f.abs*val g.abs) (val f.den*val g.den))).length≤4
  omega
 ·show(limbs (val f.den*val g.den/Nat.gcd (val f.abs*val g.abs) (val f.den*val g.den))).length≤4
  omega
theorem Rx{p q:Fct}(hp:p.Rt)(hq:q.Rt)(sp:p.Short2)(sq:q.Short2): ∀f∈Es (rdR p) (rdR q) 0,f.Mild:=by
 intro f hf;unfold Es Fd at hf;simp only[List.drop_zero,List.mem_flatMap]at hf;obtain⟨a,ha,b,hb,hf⟩:=hf;split at hf
 ·simp only[jzn,AM,or_false]at hf;subst hf;exact Q0 ((FA p hp).2.1 a ha) ((FA q hq).2.1 b hb) (K5 sp a ha) (K5 sq b hb)
 ·cases hf
theorem RE{p q:Fct}(hp:p.Rt)(hq:q.Rt):(Es (rdR p) (rdR q) 0).length≤4:=by
 have l1:=(FA p hp).2.2;have l2:=(FA q hq).2.2;unfold Es;rw[List.drop_zero];have h1: ∀a∈rdR p,(Fd a (rdR q) 0).length≤2:=by
  intro a _;unfold Fd;rw[List.drop_zero];have:=E3 (f:=fun g=>if Fx a g then [Ek a g] else []) (m:=1) (l:=rdR q) (fun g _=>by split<;>simp)
  omega
 have:=E3 (f:=fun f=>Fd f (rdR q) 0) (m:=2) (l:=rdR p) h1
 omega
theorem I1{a b:Int}{q:Fct}(hq:q.Mild):(A8 a b q).Mild:=⟨hq.la,hq.ld,hq.oa,hq.od,by show(Ck a b q.args).length≤_;rw[GO];exact hq.ln⟩
def HZ(nl:List Fct):List Fct:=match nl with|[p,q]=>Es (rdR p) (rdR q) 0|_=>[]
def Cw(nl:List Fct):List Fct:=match nl with
 |[p,q]=>if p.kind=8 then (match p.args with|[a,b]=>[A8 a b q,A8 b a q]|_=>[]) else []
 |_=>[]
theorem jeb(ps:List Fct)(hps: ∀f∈ps,f.Mild)(hs: ∀f∈ps,f.Short2)(hl:ps.length≤1000):
  CallsF Tryz.prog 29 [.c (.int .i64 4),.c (AE ps)] (.u (.c (.own 6 (Cl HZ 4 ps).length ((Cl HZ 4 ps).flatMap Fnd.ds)))):=by
 refine RF 4 142 HZ ps hps rfl hl fun hc hz=> ?_
 have h2:ps.length=2:=by have e:(rulT 4).count=2:=rfl;rw[e]at hc;omega
 match ps,h2 with
 |[p,q],_=>
  have r1:=Ca (hps p (by simp)) (hz p (by simp))
  have r2:=Ca (hps q (by simp)) (hz q (by simp))
  have s1:=GY (hps p (by simp)) (hs p (by simp))
  have s2:=GY (hps q (by simp)) (hs q (by simp))
  exact⟨fun x'=>jcu x' _ _ r1 r2,Rx r1 r2 s1 s2,Nat.le_trans (RE r1 r2) (by omega)⟩
theorem jdC(ps:List Fct)(hps: ∀f∈ps,f.Mild)(hl:ps.length≤1000):
  CallsF Tryz.prog 29 [.c (.int .i64 9),.c (AE ps)] (.u (.c (.own 6 (Cl Cw 9 ps).length ((Cl Cw 9 ps).flatMap Fnd.ds)))):=by
 refine RF 9 148 Cw ps hps rfl hl fun hc hz=> ?_
 have h2:ps.length=2:=by have e:(rulT 9).count=2:=rfl;rw[e]at hc;omega
 match ps,h2 with
 |[p,q],_=>
  have r1:=Ca (hps p (by simp)) (hz p (by simp))
  have r2:=Ca (hps q (by simp)) (hz q (by simp))
  simp only[List.map_cons,List.map_nil];generalize normF p=p' at*;generalize normF q=q' at*;by_cases h8:p'.kind=8
  ·obtain⟨a1,a2,a3,a4⟩:=r1.parts
   obtain⟨b1,b2,b3,b4⟩:=r2.parts
   have hlen:p'.args.length=2:=by rw[a2,h8];rfl
   obtain⟨a,b,hab⟩: ∃a b,p'.args=[a,b]:=by
    match p'.args,hlen with
    |[a,b],_=>exact⟨a,b,rfl⟩
   have e:Cw [p',q']=[A8 a b q',A8 b a q']:=by simp[Cw,h8,hab]
   rw[e]
   have hq0:q'.args≠[]:=fun h0=>by rw[h0]at b2;exact b1 b2.symm
   have hql:q'.args.length≤1000:=by
    rw[b2];unfold arity;repeat' split
    all_goals omega
   refine⟨fun x'=>XH x' p' q' h8 a b hab hq0 hql,?_,by simp⟩
   intro f hf;simp only[jzn,AM,or_false]at hf;rcases hf with rfl|rfl
   ·exact I1 r2.mild
   ·exact I1 r2.mild
  ·have e:Cw [p',q']=[]:=by simp[Cw,h8]
   rw[e]
   exact⟨fun x'=>jaF x' p' q' h8,by simp,by simp⟩
theorem TU{a b:Bool}{m d e f:Nat}:mkRat (toZ a m) d*mkRat (toZ b e) f=mkRat (toZ (!decide (a=b)) (m*e)) (d*f):=by
 rw[Rat.mkRat_mul_mkRat]
 congr 1
 unfold toZ;cases a<;>cases b<;>simp[Int.neg_mul,Int.mul_neg,Int.natCast_mul]
theorem XU(b:Bool)(g m:Nat):toZ b (g*m)=(g:Int)*toZ b m:=by
 unfold toZ;cases b<;>simp[Int.natCast_mul,Int.mul_neg]
theorem Ps(b:Bool)(m d:Nat)(hd:d≠0):mkRat (toZ (sg b m) (m/Nat.gcd m d)) (d/Nat.gcd m d)=mkRat (toZ b m) d:=by
 have hg:Nat.gcd m d≠0:=Nat.gcd_ne_zero_right hd;obtain⟨m',hm⟩:=Nat.gcd_dvd_left m d;obtain⟨d',hd'⟩:=Nat.gcd_dvd_right m d;generalize hgg:Nat.gcd m d=g at*;have e1:m/g=m':=by rw[hm];exact Nat.mul_div_cancel_left _ (by omega)
 have e2:d/g=d':=by rw[hd'];exact Nat.mul_div_cancel_left _ (by omega)
 rw[e1,e2]
 have e3:toZ (sg b m) m'=toZ b m':=by
  unfold sg;by_cases h:m=0
  ·have:m'=0:=by
    rcases Nat.mul_eq_zero.1 (hm.symm.trans h)with h|h
    ·exact absurd h hg
    ·exact h
   subst this;unfold toZ;cases b<;>simp
  ·rw[decide_eq_true (by omega),Bool.and_true]
 rw[e3]
 conv=>rhs;rw[hm,hd',XU]
 rw[Rat.mkRat_mul_left hg]
structure Rto (W:Int→Pq) (n:Int) (f:Fct):Prop where
 args: ∃a b c d,f.args=[a,b,c,d]∧Bg W 9 (Be f) [Ah a b,Ah c d]
 ag: ∀a∈f.args,0≤a∧a<n
 den:val f.den≠0
theorem Km{W:Int→Pq}{n:Int}{f:Fct}(h:Sat W n f)(hlv: ∀n,val (limbs n)=n)(hd:f.kind=9→val f.den≠0): ∀g∈rdR f,Rto W n g:=by
 obtain⟨k,l,ng,m,d⟩:=f
 obtain⟨h1,h2,h3,h4⟩:=h
 simp only at*;unfold rdR;simp only;have h1Q: ∀x:List Int,Be ⟨9,x,false,limbs 1,limbs 1⟩=1:=fun x=>by
  unfold Be;simp only[hlv];exact Ko (by decide)
 split
 ·rename_i hk
  subst hk;rcases l with _|⟨a,_|⟨b,_|⟨c,_|⟨e,_|⟨v,l⟩⟩⟩⟩⟩<;>simp[arity]at h2
  have hv:=(Cm (.inr (.inr (.inl rfl))) a b c e).1 h4;rw[show AW [a,b,c,e]=[Ah a b,Ah c e] from rfl,Bg,if_neg (by decide),if_neg (by decide),if_pos rfl]at hv
  intro g hg;simp only[jzn,AM,or_false]at hg;rcases hg with rfl|rfl
  ·refine⟨⟨a,b,c,e,rfl,?_⟩,h3,by rw[hlv];decide⟩
   rw[vanS9,h1Q]
   exact hv
  ·refine⟨⟨c,e,a,b,rfl,?_⟩,fun x hx=>h3 x ?_,by rw[hlv];decide⟩
   ·rw[vanS9,h1Q]
    grind
   ·simp only[List.getD_cons_zero,List.getD_cons_succ,jzn,AM,or_false]at hx ⊢;omega
 split
 ·rename_i hk
  subst hk;rcases l with _|⟨a,_|⟨b,_|⟨c,_|⟨e,_|⟨v,l⟩⟩⟩⟩⟩<;>simp[arity]at h2
  have hv:=(Cm (.inr (.inr (.inr rfl))) a b c e).1 h4;rw[show AW [a,b,c,e]=[Ah a b,Ah c e] from rfl]at hv
  replace hd:=hd rfl
  intro g hg;rcases jzn.1 hg with rfl|hg
  ·exact⟨⟨a,b,c,e,rfl,hv⟩,h3,hd⟩
  ·split at hg
   ·cases hg
   ·rename_i hm
    rw[List.mem_singleton]at hg
    subst hg;refine⟨⟨c,e,a,b,rfl,?_⟩,fun x hx=>h3 x ?_,hm⟩
    ·rw[vanS9]at*
     unfold Be at*;simp only at*;have:=JP (neg:=ng) hm hd;rw[hv]
     grind
    ·simp only[List.getD_cons_zero,List.getD_cons_succ,jzn,AM,or_false]at hx ⊢;omega
 ·intro g hg;cases hg
theorem WP{W:Int→Pq}{n:Int}{f g:Fct}(hf:Rto W n f)(hg:Rto W n g)(hlv: ∀n,val (limbs n)=n)(hj:Fx f g=true):Good W n (Ek f g,[]):=by
 obtain⟨⟨a,b,c,d,e1,v1⟩,a1,d1⟩:=hf
 obtain⟨⟨a',b',c',d',e2,v2⟩,a2,d2⟩:=hg
 unfold Fx at hj;rw[decide_eq_true_eq,e1,e2]at hj;simp only[List.getD_cons_zero,List.getD_cons_succ]at hj;have hr:Be (Ek f g)=Be f*Be g:=by
  unfold Ek Be;simp only[hlv];rw[Ps _ _ _ (Nat.mul_ne_zero d1 d2),TU]
 refine⟨?_,by simp,fun _=> ?_⟩
 ·unfold Ek;simp only[e1,e2,List.getD_cons_zero,List.getD_cons_succ,jzn,AM,or_false,forall_eq_or_imp,forall_eq];rw[e1]at a1;rw[e2]at a2;exact⟨(a1 a (by simp)).2,(a1 b (by simp)).2,(a2 c' (by simp)).2,(a2 d' (by simp)).2⟩
 ·simp only[hr];unfold Ek;simp only[e1,e2,List.getD_cons_zero,List.getD_cons_succ];rw[Cm (.inr (.inr (.inr rfl))),show AW [a,b,c',d']=[Ah a b,Ah c' d'] from rfl]
  rw[vanS9]at*
  rw[v1,hj,v2]
  grind
theorem Tu{W:Int→Pq}{n:Int}{nl:List Fct}(hn: ∀f∈nl,Sat W n f)(hd: ∀f∈nl,f.kind=9→val f.den≠0)(hlv: ∀n,val (limbs n)=n): ∀x∈(HZ nl).map fun f=>(f,([]:List Grd)),Good W n x:=by
 intro x hx;rw[jzk]at hx;obtain⟨f,hf,rfl⟩:=hx;unfold HZ at hf;split at hf
 ·rename_i p q
  unfold Es Fd at hf;simp only[List.drop_zero,List.mem_flatMap]at hf;obtain⟨g,hg,h,hh,hf⟩:=hf;split at hf
  ·rename_i hj
   rw[List.mem_singleton]at hf
   subst hf;exact WP (Km (hn p (by simp)) hlv (hd p (by simp)) g hg) (Km (hn q (by simp)) hlv (hd q (by simp)) h hh) hlv hj
  ·cases hf
 ·cases hf
theorem KC{W:Int→Pq}{n:Int}{a b:Int}{q:Fct}(h:Sat W n q)(he:W a=W b)(hb:b<n):Good W n (A8 a b q,[]):=by
 refine⟨?_,by simp,fun _=> ?_⟩
 ·unfold A8 Ck;simp only;intro x hx;rw[jzk]at hx;obtain⟨y,hy,rfl⟩:=hx;split
  ·exact hb
  ·exact(h.ag y hy).2
 ·have hv:=h.vn;unfold A8 Ck AB Be at*;simp only at*;have e:(q.args.map fun x=>if x=a then b else x).map W=q.args.map W:=by
   rw[List.map_map]
   refine List.map_congr_left fun x _=> ?_
   simp only[Function.comp];split
   ·rename_i e;rw[e,he]
   ·rfl
  rw[e]
  exact hv
theorem Wo{W:Int→Pq}{n:Int}{nl:List Fct}(hn: ∀f∈nl,Sat W n f): ∀x∈(Cw nl).map fun f=>(f,([]:List Grd)),Good W n x:=by
 intro x hx;rw[jzk]at hx;obtain⟨f,hf,rfl⟩:=hx;unfold Cw at hf;split at hf
 ·rename_i p q
  split at hf
  ·rename_i hk
   obtain⟨k,l,ng,m,d⟩:=p
   simp only at hk hf;subst hk;split at hf
   ·rename_i a b
    have hp:=hn _ (List.mem_cons_self ..);have hv:=hp.vn;simp only at hv;rw[Gl]at hv;have e:W a=W b:=by
     generalize W a=A at*;generalize W b=B at*;obtain⟨x1,y1⟩:=A;obtain⟨x2,y2⟩:=B;simp only at hv;rw[show x1=x2 by grind,show y1=y2 by grind]
    have h1:=hp.ag a (by simp)
    have h2:=hp.ag b (by simp)
    simp only[jzn,AM,or_false]at hf;rcases hf with rfl|rfl
    ·exact KC (hn q (by simp)) e h2.2
    ·exact KC (hn q (by simp)) e.symm h1.2
   ·cases hf
  ·cases hf
 ·cases hf
end Go.Va
namespace Go.Va
open Int (natCast_add natCast_mul natCast_emod natCast_ediv natCast_pow)
open Go.Proofs
def factsL(L:List Fnd):List Fct:=L.map Fnd.fact
def BX(L:List Fnd):List Grd:=L.flatMap Fnd.grds
theorem K8{L:List Fnd}(h:FndOk L):(BX L).length≤L.length*10:=E3 fun x hx=>(h.sh x hx).1
theorem Qj{L:List Fnd}(h:FndOk L): ∀g∈BX L,g.Short:=fun g hg=>by
 obtain⟨x,hx,hg⟩:=List.mem_flatMap.1 hg
 exact(h.sh x hx).2 g hg
@[simp]theorem YN(l:List Grd):(l.flatMap Grd.ds).take (l.length*2)=l.flatMap Grd.ds:=AI (by rw[H5];omega)
@[simp]theorem jir(l:List Grd):D.slice l.length (l.flatMap Grd.ds)=grdsD l:=rfl
@[simp]theorem src_grds(j:TI)(st:St)(l:List Grd):St.src j (.d (grdsD l)) st=if l.length*2=l.length*j.size then some (l.length,l.flatMap Grd.ds) else none:=by
 unfold grdsD St.src;simp only[H5]
theorem FndOk.sub{L M:List Fnd}(h:FndOk L)(hs:M.Sublist L):FndOk M:=⟨fun x hx=>h.rt x (hs.subset hx),fun x hx=>h.sh x (hs.subset hx),h.nd.sublist hs⟩
theorem Sn(n:Int)(ps:List Fct)(L:List Fnd)(hL:FndOk L)(hln:L.length≤100000000000)(hF:CallsF Tryz.prog 29 [.c (.int .i64 n),.c (AE ps)] (.u (.c (.d (BQ L))))):
  CallsF Tryz.prog 10 [.c (.int .i64 n),.c (AE ps)] (.tup [.c (.d (AE (factsL L))),.c (.d (grdsD (BV (BX L))))]):=by
 refine Ae (T:=tb) Ad mixed Tryz.func10 rfl (by decide) (Ac rfl) rfl ?_;unfold St.init
 simp -implicitDefEqProofs[jJ,-natCast_add,-natCast_mul,-List.reduceReplicate];refine Aa hF ?_;simp -implicitDefEqProofs[jJ,-natCast_add,-natCast_mul,-List.reduceReplicate];refine BA [(4,20),(5,24)] (fun i:Nat=>⟨[(12,vI .i64 i),(11,vI .i64 L.length),(10,vC (.d (BQ L))),(4,vC (.sl 4 0 i)),(5,vC (.sl 5 0 (BX (L.take i)).length))],
  [(4,.row 5 ((factsL (L.take i)).flatMap Fct.ds) true),(5,.row 2 ((BX (L.take i)).flatMap Grd.ds) true)]⟩) (fun i=>i≤L.length) (fun i=>L.length - i) 0 (by simp[An,lk,St.le,vI,vC,factsL,BX]) (by omega) ?_
 rintro i hi
 by_cases h:i<L.length
 ·have e2:=IU h;have hsub:=K8 (hL.sub (List.take_sublist (i+1) L));rw[AG]at hsub;have e3:BX (L.take (i+1))=BX (L.take i)++L[i].grds:=by
   unfold BX;rw[AQ h,List.flatMap_append];simp
  have e4:factsL (L.take (i+1))=factsL (L.take i)++[L[i].fact]:=by
   unfold factsL;rw[AQ h,List.map_append];rfl
  have e5:(factsL (L.take i)).length=i:=by simp[factsL];omega
  rw[e3,List.length_append]at hsub
  simp -implicitDefEqProofs[jJ,-natCast_add,-natCast_mul,-List.reduceReplicate,h,e2,e5];refine⟨by omega,by omega,by omega,i+1,?_,by omega,by omega⟩
  simp -implicitDefEqProofs[jJ,-natCast_add,-natCast_mul,-List.reduceReplicate,An,lk,e3,e4]
 ·have hi2:i=L.length:=by omega
  subst hi2;rw[AZ];have hl1:=K8 hL;have q:=Qf (BX L) (by omega) (Qj hL)
  simp -implicitDefEqProofs[jJ,-natCast_add,-natCast_mul,-List.reduceReplicate,h];refine .inr (.inr (.inr (.inr (.inr ⟨rfl,5,(BX L).length,2,_,_,(BX L).flatMap Grd.ds,_,_,[],rfl,by simp[lk],rfl,rfl,q,?_⟩))))
  simp -implicitDefEqProofs[jJ,-natCast_add,-natCast_mul,-List.reduceReplicate,St.drop];have e:(factsL L).length=L.length:=by simp[factsL]
  rw[←e,M6]
  exact⟨AA _,rfl⟩
def Ej(L:List Fnd)(F:Fct):List Grd×Bool:=match L.find? (fun x=>decide (Aw x.fact F=0))with|some x=>(x.grds,true)|none=>([],false)
theorem VK(n:Int)(ps:List Fct)(f:Fct)(hf:f.Mild)(L:List Fnd)(hL:FndOk L)(hln:L.length≤100000000000)(hF:CallsF Tryz.prog 29 [.c (.int .i64 n),.c (AE ps)] (.u (.c (.d (BQ L))))):
  CallsF Tryz.prog 14 [.c (.int .i64 n),.c (AE ps),.agg f.ds] (.tup (if (normF f).kind=0 then [.c (.d (.slice 0 [])),.c (.d (.bool false))] else [.c (.d (grdsD (Ej L (normF f)).1)),.c (.d (.bool (Ej L (normF f)).2))])):=by
 have k1:=LL f hf;have hrt:=Ca (f:=f) hf;simp only[Fct.ds]at k1;generalize normF f=F at*;refine Ae (T:=tb) Ad mixed Tryz.func14 rfl (by decide) (Ac rfl) rfl ?_;unfold St.init
 simp -implicitDefEqProofs[jJ,-natCast_add,-natCast_mul,-List.reduceReplicate];refine Aa k1 ?_;simp -implicitDefEqProofs[jJ,-natCast_add,-natCast_mul,-List.reduceReplicate,Fct.res];refine⟨fun hk=> ?_,fun hk=> ?_⟩
 ·rw[if_pos hk]
  simp -implicitDefEqProofs[jJ,-natCast_add,-natCast_mul,-List.reduceReplicate]
 ·have hrt:=hrt hk;rw[if_neg hk];refine Aa hF ?_;simp -implicitDefEqProofs[jJ,-natCast_add,-natCast_mul,-List.reduceReplicate];refine Av (fun i:Nat=>⟨[(20,vI .i64 i),(19,vI .i64 L.length),(18,vC (.d (BQ L))),(8,vC (.ptr 8 0))],[(8,.box [.d (.int .i64 F.kind),.d (intsD F.args),.d (.bool F.neg),.d (Ab F.abs),.d (Ab F.den)])]⟩)
   (fun i=>i≤L.length∧Ej (L.drop i) F=Ej L F) (fun i=>L.length - i) 0 (by simp[An,lk,St.le,vI,vC]) ⟨by omega,rfl⟩ ?_
  rintro i ⟨hi,hg⟩
  by_cases h:i<L.length
  ·have e2:=IU h;have hx:=hL.rt L[i] (Ak h);have k2:=MD L[i].fact F hx.mild hrt.mild hx.num hrt.num;have e:Ej (L.drop i) F=if Aw L[i].fact F=0 then (L[i].grds,true) else Ej (L.drop (i+1)) F:=by
    unfold Ej;rw[AD h,List.find?_cons];by_cases h0:Aw L[i].fact F=0<;>simp[h0]
   simp only[Fct.ds]at k2;rw[e]at hg;by_cases h0:Aw L[i].fact F=0
   ·rw[if_pos h0]at hg
    rw[←hg]
    simp -implicitDefEqProofs[jJ,-natCast_add,-natCast_mul,-List.reduceReplicate,h,e2];refine Aa k2 ?_;simp -implicitDefEqProofs[jJ,-natCast_add,-natCast_mul,-List.reduceReplicate,h0]
   ·rw[if_neg h0]at hg
    simp -implicitDefEqProofs[jJ,-natCast_add,-natCast_mul,-List.reduceReplicate,h,e2];refine Aa k2 ?_;simp -implicitDefEqProofs[jJ,-natCast_add,-natCast_mul,-List.reduceReplicate,h0];exact⟨by omega,⟨by omega,hg⟩,by omega⟩
  ·have hi2:i=L.length:=by omega
   subst hi2;have e:Ej L F=([],false):=by rw[←hg,List.drop_length];rfl
   rw[e]
   simp -implicitDefEqProofs[jJ,-natCast_add,-natCast_mul,-List.reduceReplicate,h];rfl
theorem jay:CallsF Tryz.prog 20 [] (.u (.c (.d (.int .i64 28)))):=by
 refine Ae (T:=tb) Ad mixed Tryz.func20 rfl (by decide) (Ac rfl) rfl ?_;unfold St.init
 simp -implicitDefEqProofs[jJ,-natCast_add,-natCast_mul,-List.reduceReplicate]
end Go.Va
namespace Go.Va
open Go.Proofs
def Ed(a:Int):List Int→List Int
 |[]=>[a]
 |b::l=>if a≤b then a::b::l else b::Ed a l
def Hp:List Int→List Int
 |[]=>[]
 |a::l=>Ed a (Hp l)
theorem NM(a:Int): ∀l,(Ed a l).Perm (a::l)
 |[]=>List.Perm.refl _
 |b::l=>by
  unfold Ed;split
  ·exact List.Perm.refl _
  ·exact((NM a l).cons b).trans (List.Perm.swap a b l)
theorem Ln: ∀l,(Hp l).Perm l
 |[]=>List.Perm.refl _
 |a::l=>(NM a _).trans ((Ln l).cons a)
theorem Rs(a:Int): ∀l:List Int,l.Pairwise (· ≤ ·)→(Ed a l).Pairwise (· ≤ ·)
 |[],_=>by simp[Ed]
 |b::l,h=>by
  rw[List.pairwise_cons]at h
  unfold Ed;split
  ·rename_i hab
   rw[List.pairwise_cons,List.pairwise_cons]
   refine⟨fun x hx=> ?_,h.1,h.2⟩
   rcases jzn.1 hx with rfl|hx
   ·exact hab
   ·have:=h.1 x hx;omega
  ·rename_i hab
   rw[List.pairwise_cons]
   refine⟨fun x hx=> ?_,Rs a l h.2⟩
   rcases jzn.1 ((NM a l).mem_iff.1 hx)with rfl|hx
   ·omega
   ·exact h.1 x hx
theorem M5: ∀l:List Int,(Hp l).Pairwise (· ≤ ·)
 |[]=> .nil
 |a::l=>Rs a _ (M5 l)
theorem Hy(l:List Int):BE l=Hp l:=(Mj (Ln l) (M5 l)).symm
def Lp(b:Bnd)(p:Pat):List Int:=Hp (Bi b p.letters)
def SL(b:Bnd)(ps:List Pat):List Grd:=if ps.any (fun p=>BO (Lp b p)) then [] else BV (ps.map fun p=>⟨p.kind,Lp b p⟩)
def Nw(r:Rul)(b:Bnd):List AR:=if !r.guards.any (fun p=>BO (Lp b p)) then r.concl.map fun p=>(D9 b p,SL b r.guards) else []
theorem jhG(r:Rul):Cj r=Nw r:=by
 funext b
 have e:Bc b=Lp b:=funext fun p=>Hy _
 unfold Cj Nw Gv guardsL SL GQ;rw[e]
theorem VV(r:Rul)(nl:List Fct):Gn r nl=CU DH (runF nl [] (DY (Nw r) (Co r nl) nl.length 0 Bnd.zero)):=by
 unfold Gn saysP;rw[jhG]
end Go.Va
